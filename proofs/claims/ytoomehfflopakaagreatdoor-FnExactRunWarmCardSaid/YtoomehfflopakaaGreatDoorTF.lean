import Derived.Test.YtoomehfflopakaaGreatDoorTC
namespace Go.Proofs.YtoomehfflopakaaGreatDoor
open Go.RowKit Tryz
attribute [local irreducible] eP eC
set_option maxRecDepth 10000
variable{r:Bool}{x2 x3:Int}{x0 x1:Str}
theorem zP:prog.follows .mixedOrders=true:=by kernel_rfl
theorem rS:fR prog 45 0 0=true:=by kernel_rfl
theorem BG:fR prog 45 1 1=true:=by kernel_rfl
theorem BI:fR prog 45 3 3=true:=by kernel_rfl
theorem BH:fR prog 45 2 2=true:=by kernel_rfl
theorem Pf:lL prog 101=true:=by kernel_rfl
theorem W3:gV prog 101 1=true:=by kernel_rfl
theorem Pg:lL prog 23=true:=by kernel_rfl
theorem uX:gV prog 23 1=true:=by kernel_rfl
def yo(x0:Int)(x1:Int)(x2:Int):Option Bool:=
 some (ez .leq x1 x0&&ez .leq x0 x2)
instance yK:ky prog 32 dt dt dt dt yo:=⟨@λ x0 x1 x2 r h=>by
 refine fe 0 func32 λ M _ _ j=>?_;refine j.q1 λ j=>?_;exact j.e1 h⟩
def yg(x0:Int)(x1:Int)(x2:Int):Option Bool:=
 some (ez .geq x0 x1&&ez .leq x0 x2)
instance yX:ky prog 67 dt dt dt dt yg:=⟨@λ x0 x1 x2 r h=>by
 refine fe 0 func67 λ M _ _ j=>?_;refine j.q1 λ j=>?_;exact j.e1 h⟩
def ZW(x0:File)(x1:File):Option Bool:=
 some (((ez .eql x0.root x1.root&&decide (x0.pkg=x1.pkg))&&(x0.init == x1.init))&&decide (x0.name=x1.name))
instance:fY prog 200 dt dt dt ZW:=⟨@λ x0 x1 r h=>by
 refine fe 0 func200 λ M _ _ j=>?_;refine j.q1 λ j=>?_;exact j.e1 h⟩
def ZX(x0:List Str)(x1:Str)(s4:Int):Option (Int⊕(Unit⊕Int)):=
 ite ((ez .lss s4 x0.length)=true) ((eN x0 s4).bind λ v9=>
 ite ((decide (v9=x1))=true) (some (.inr (.inr s4)))<|(i64 (s4+1)).bind λ a8=>
 some (.inl a8))<|some (.inr (.inl ()))
def Js(x0:List Str)(x1:Str):Option Int:=
 Option.bind (zE (λ s4=>ZX x0 x1 s4) 0) (Sum.elim (λ b2=>
 some (-1)) some)
instance:fY prog 224 dt dt dt Js:=⟨@λ x0 x1 r h=>by
 refine fe 0 func224 λ M w0 _ j=>?_;refine j.q1 (λ j=>za ?_);refine j.jb [] (λ _=>[]) h (λ o2 p2 k2=>?_) λ b2 _ _ j h=>?_
 .refine j.q1 λ j=>?_
  refine j.lp [0,1] (λ s4=>[(5,dt s4)]) p2 λ s4 x4 _ _ j h hx4=>?_;refine j.qc h (λ j h=>?_) λ j h=>?_
  .have⟨v9,p9,h⟩:=bs h
   refine j.qc h (λ j h=>?_) λ j h=>?_
   .exact j.e1 (jo (lo h hx4) k2)
   exact kB h λ a8 a9 h=>j.n1 [] h
  exact fU (lo h hx4)
 exact j.e1 h⟩
def ZY(x0:List Str)(x1:Str):Option Bool:=
(Js x0 x1).bind λ v2=>
 some (ez .geq v2 0)
instance:fY prog 206 dt dt dt ZY:=⟨@λ x0 x1 r h=>by
 refine fe 0 func206 λ M _ _ j=>?_;refine j.q1 λ j=>?_;exact kB h λ v2 p2 h=>j.e1 h⟩
def ZH(x0:Str)(a8:Int):Option (Int⊕(Unit⊕Bool)):=
 ite ((ez .lss a8 x0.l.length)=true) ((eN x0.l a8).bind λ a9=>
(gO (gT .lss a9 (UInt8.ofNat 97) == false) (eN x0.l a8)).bind λ b3=>
 ite ((gT .lss a9 (UInt8.ofNat 97)||gT .gtr b3 (UInt8.ofNat 122))=true) (some (.inr (.inr false)))<|(i64 (a8+1)).bind λ b5=>
 some (.inl b5))<|some (.inr (.inl ()))
def wr(x0:Str):Option Bool:=
(yo x0.l.length 1 3).bind λ v2=>
 ite ((!v2)=true) (some false)<|Option.bind (zE (λ a8=>ZH x0 a8) 0) (Sum.elim (λ b8=>
 some true) some)
instance ZZ:gC prog 92 dt dt wr:=⟨@λ x0 r h=>by
 refine fe 0 func92 λ M w0 _ j=>?_;refine j.q1 λ j=>?_;refine kB h λ v2 p2 h=>j.qc h (λ j h=>?_) λ j h=>?_
 .exact j.e1 h
 refine kQ<|za<|j.jb [] (λ _=>[]) h (λ o8 p8 k8=>?_) λ b8 _ _ j h=>?_
 .refine j.q1 λ j=>?_
  refine j.lp [0] (λ a9=>[(3,dt a9)]) p8 λ a9 b3 _ _ j h a8=>?_;refine j.qc h (λ j h=>?_) λ j h=>?_
  .have⟨b5,b6,h⟩:=bs h
   refine kB h λ b7 b9 h=>j.qc h (λ j h=>?_) λ j h=>?_
   .exact j.e1 (jo (lo h a8) k8)
   exact kB h λ c8 d1 h=>j.n1 [] h
  exact fU (lo h a8)
 exact j.e1 h⟩
def ZI(x0:Str)(s4:Int):Option (Int⊕(Unit⊕Bool)):=
 ite ((ez .lss s4 x0.l.length)=true) ((eN x0.l s4).bind λ a8=>
(gO (gT .lss a8 (UInt8.ofNat 97) == false) (eN x0.l s4)).bind λ a9=>
 ite ((gT .lss a8 (UInt8.ofNat 97)||gT .gtr a9 (UInt8.ofNat 122))=true) (some (.inr (.inr false)))<|(i64 (s4+1)).bind λ b3=>
 some (.inl b3))<|some (.inr (.inl ()))
def xl(x0:Str):Option Bool:=
 Option.bind (zE (λ s4=>ZI x0 s4) 0) (Sum.elim (λ b2=>
(yg x0.l.length 1 3).bind λ a8=>
 some a8) some)
instance qm:gC prog 139 dt dt xl:=⟨@λ x0 r h=>by
 refine fe 0 func139 λ M w0 _ j=>?_;refine j.q1 (λ j=>za ?_);refine j.jb [0] (λ _=>[]) h (λ o2 p2 k2=>?_) λ b2 _ _ j h=>?_
 .refine j.q1 λ j=>?_
  refine j.lp [0,5] (λ s4=>[(6,dt s4)]) p2 λ s4 x4 _ _ j h hx4=>?_;refine j.qc h (λ j h=>?_) λ j h=>?_
  .refine j.q1 λ j=>?_
   refine Kx h λ a8 a9 b3 b5 h=>j.qc h (λ j h=>?_) λ j h=>?_
   .exact j.e1 (jo (lo h hx4) k2)
   exact kB h λ b6 b7 h=>j.n1 [] h
  exact fU (lo h hx4)
 exact kB h λ b8 b9 h=>j.e1 h⟩
def jd(x0:List Int)(x1:Int)(s4:Int):Option (Int⊕(Unit⊕Int)):=
 ite ((ez .lss s4 x0.length)=true) ((eN x0 s4).bind λ a8=>
 ite (ez .eql x1 a8) (some (.inr (.inr s4)))<|(i64 (s4+1)).bind λ a9=>
 some (.inl a9))<|some (.inr (.inl ()))
def wD(x0:List Int)(x1:Int):Option Int:=
 Option.bind (zE (λ s4=>jd x0 x1 s4) 0) (Sum.elim (λ b2=>
 some (-1)) some)
instance:fY prog 112 dt dt dt wD:=⟨@λ x0 x1 r h=>by
 refine fe 0 func112 λ M w0 _ j=>?_;refine j.q1 (λ j=>za ?_);refine j.jb [] (λ _=>[]) h (λ o2 p2 k2=>?_) λ b2 _ _ j h=>?_
 .refine j.q1 λ j=>?_
  refine j.lp [0,1,7] (λ s4=>[(8,dt s4)]) p2 λ s4 x4 _ _ j h hx4=>?_;refine j.qc h (λ j h=>?_) λ j h=>?_
  .refine j.q1 λ j=>?_
   refine kB h λ a8 a9 h=>j.qc h (λ j h=>?_) λ j h=>?_
   .exact j.e1 (jo (lo h hx4) k2)
   exact kB h λ b3 b5 h=>j.n1 [] h
  exact fU (lo h hx4)
 exact j.e1 h⟩
def zY(x0:List Str)(x1:Str)(s4:Int):Option (Int⊕(Unit⊕Int)):=
 ite ((ez .lss s4 x0.length)=true) ((eN x0 s4).bind λ a8=>
 ite ((decide (x1=a8))=true) (some (.inr (.inr s4)))<|(i64 (s4+1)).bind λ a9=>
 some (.inl a9))<|some (.inr (.inl ()))
def xh(x0:List Str)(x1:Str):Option Int:=
 Option.bind (zE (λ s4=>zY x0 x1 s4) 0) (Sum.elim (λ b2=>
 some (-1)) some)
instance:fY prog 173 dt dt dt xh:=⟨@λ x0 x1 r h=>by
 refine fe 0 func173 λ M w0 _ j=>?_;refine j.q1 (λ j=>za ?_);refine j.jb [] (λ _=>[]) h (λ o2 p2 k2=>?_) λ b2 _ _ j h=>?_
 .refine j.q1 λ j=>?_
  refine j.lp [0,1,7] (λ s4=>[(8,dt s4)]) p2 λ s4 x4 _ _ j h hx4=>?_;refine j.qc h (λ j h=>?_) λ j h=>?_
  .refine j.q1 λ j=>?_
   refine kB h λ a8 a9 h=>j.qc h (λ j h=>?_) λ j h=>?_
   .exact j.e1 (jo (lo h hx4) k2)
   exact kB h λ b3 b5 h=>j.n1 [] h
  exact fU (lo h hx4)
 exact j.e1 h⟩
def xS(x0:List Int)(x1:Int):Option Bool:=
(wD x0 x1).bind λ v2=>
 some (ez .geq v2 0)
instance XJ:fY prog 68 dt dt dt xS:=⟨@λ x0 x1 r h=>by
 refine fe 0 func68 λ M _ _ j=>?_;refine j.q1 λ j=>?_;exact kB h λ v2 p2 h=>j.e1 h⟩
def zQ(x0:List Str)(x1:Str):Option Bool:=
(xh x0 x1).bind λ v2=>
 some (ez .geq v2 0)
instance ZG:fY prog 134 dt dt dt zQ:=⟨@λ x0 x1 r h=>by
 refine fe 0 func134 λ M _ _ j=>?_;refine j.q1 λ j=>?_;exact kB h λ v2 p2 h=>j.e1 h⟩
theorem Bw:iH prog 101 9 1 16=true:=by kernel_rfl
theorem PX:zeroCells prog 9=some Wy:=by kernel_rfl
def xt(x0:Str)(x1:Str):Option Bool:=
(gO (ez .geq x0.l.length x1.l.length == true) (oi x0 x1.l.length)).bind λ v2=>
 some (ez .geq x0.l.length x1.l.length&&decide (v2=x1))
instance:fY prog 215 dt dt dt xt:=⟨@λ x0 x1 r h=>by
 refine fe 0 func215 λ M _ _ j=>?_;refine j.q1 λ j=>?_;exact kB h λ v2 p2 h=>j.e1 h⟩
def j0(x0:Str)(x1:Str):Option Bool:=
(xt x0 x1).bind λ v2=>
 some v2
instance J2:fY prog 193 dt dt dt j0:=⟨@λ x0 x1 r h=>by
 refine fe 0 func193 λ M _ _ j=>?_;refine j.q1 λ j=>?_;exact kB h λ v2 p2 h=>j.e1 h⟩
def ya(x0:Str)(x1:UInt8)(s6:Int):Option (Int⊕(Unit⊕Int)):=
 ite (ez .geq s6 0) ((eN x0.l s6).bind λ a8=>
 ite ((gT .eql a8 x1)=true) (some (.inr (.inr s6)))<|(i64 (s6 - 1)).bind λ a9=>
 some (.inl a9))<|some (.inr (.inl ()))
def yT(x0:Str)(x1:UInt8):Option Int:=
 Option.bind ((i64 (x0.l.length - 1)).bind λ v3=>
 zE (λ s6=>ya x0 x1 s6) v3) (Sum.elim (λ b2=>
 some (-1)) some)
instance:fY prog 174 dt dt dt yT:=⟨@λ x0 x1 r h=>by
 refine fe 0 func174 λ M w0 _ j=>?_;refine j.q1 (λ j=>za ?_);refine j.jb [] (λ _=>[]) h (λ o2 p2 k2=>?_) λ b2 _ _ j h=>?_
 .have⟨v3,p3,h⟩:=bs p2
  refine j.q1 λ j=>?_;refine j.lp [0,1] (λ s6=>[(5,dt s6)]) h λ s6 x6 _ _ j h hx6=>?_;refine j.qc h (λ j h=>?_) λ j h=>?_
  .have⟨a8,a9,h⟩:=bs h
   refine j.qc h (λ j h=>?_) λ j h=>?_
   .exact j.e1 (jo (lo h hx6) k2)
   exact kB h λ b3 b5 h=>j.n1 [] h
  exact fU (lo h hx6)
 exact j.e1 h⟩
def zW(x0:Str)(x1:UInt8):Option Int:=
(yT x0 x1).bind λ v2=>
 some v2
instance:fY prog 135 dt dt dt zW:=⟨@λ x0 x1 r h=>by
 refine fe 0 func135 λ M _ _ j=>?_;refine j.q1 λ j=>?_;exact kB h λ v2 p2 h=>j.e1 h⟩
def je(x1:Str)(x2:Int)(b3:Int)(a8:Str×(List Str)×Int):Option ((Str×(List Str)×Int)⊕(Str×(List Str)×Int)):=
 ite (ez .lss a8.2.2 b3) ((w6 a8.1 x1).bind λ a9=>
 ite (ez .lss a9 0) (some (.inr (a8.1,a8.2.1,a8.2.2)))<|(i64 (a9+x2)).bind λ b5=>
(oi a8.1 b5).bind λ b6=>
(eN a8.2.1 a8.2.2).bind λ d1=>
(mi a8.2.1 a8.2.2 b6).bind λ b7=>
(i64 (a9+x1.l.length)).bind λ b8=>
(nk a8.1 b8).bind λ b9=>
(i64 (a8.2.2+1)).bind λ c8=>
 some (.inl (b9,b7,c8)))<|some (.inr (a8.1,a8.2.1,a8.2.2))
def Yq(x0:Str)(x1:Str)(x2:Int)(x3:Int):Option (List Str):=
 ite (ez .eql x3 0) (some [])<|ite ((decide (x1=⟨[]⟩))=true) ((Wz x0 x3).bind λ v9=>
 some v9)<|Option.bind (ite (ez .lss x3 0) ((Yz x0 x1).bind λ b5=>
(i64 (b5+1)).bind λ b6=>
 some b6)<|some x3) λ a9=>
(i64 (x0.l.length+1)).bind λ b3=>
(mv 1 16 (if b3<a9 then b3 else a9) kl).bind λ b7=>
(i64 ((if b3<a9 then b3 else a9) - 1)).bind λ b8=>
 Option.bind (zE (λ b9=>je x1 x2 b8 b9) (x0,b7,0)) λ a8=>
(eN a8.2.1 a8.2.2).bind λ d3=>
(mi a8.2.1 a8.2.2 a8.1).bind λ c8=>
(i64 (a8.2.2+1)).bind λ d1=>
(W1 c8 d1).bind λ d2=>
 some d2
instance:od prog 192 dt dt dt dt dt Yq:=⟨@λ x0 x1 x2 x3 r h=>by
 refine fe 1 func192 λ M w0 _ j=>?_;refine j.q1 (λ j=>?_) (hs:=sc Z (oA Z (wg (α:=Str)))<|.nil);refine j.qc h (λ j h=>?_) λ j h=>?_
 .exact j.e1 h (hs:=sc Z (oA Z (wg (α:=Str)))<|.nil)
 refine j.qc h (λ j h=>?_) λ j h=>?_
 .have⟨v9,p9,h⟩:=bs h
  exact j.e1 h
 refine kQ<|za<|j.kJ 1 [0,1,2] (λ b5=>[(3,dt b5)]) (λ _ _=>[]) h (λ b5 b6=>?_) λ b5 d6 _ _ _ j h=>?_
 .refine j.qc b6 (λ j h=>?_) λ j h=>?_
  .have⟨d7,e0,h⟩:=bs h
   refine kB h λ e3 e4 h=>j.q1 λ j=>?_;cases h;exact fz
  cases h;exact fz
 refine kB h λ e5 e6 h=>j.q1 (λ j=>Ka ?_);refine j.g1 1 λ _ _ j=>?_;refine kB h λ e7 b7 h=>j.make 0 Z Z Bw PX lY Z (gl Z) b7 [0,1,2,3] Z [] Z Z λ e8 _ _ _ j=>?_;refine j.Aw 1 [(9,0)] (λ _ _ j=>Kb ?_);refine kB h λ e9 f9 h=>j.qo [(9,0)] λ _ _ j=>?_;refine j.qo [(9,0)] (λ _ _ j=>za ?_);refine j.kJ 1 [] (λ a8=>[(0,dt a8.1),(10,dt a8.2.2)]) (λ a8 q=>[(9,0,eQ (q 0) 9 a8.2.1)]) h (λ a8 b8=>?_) λ a8 g0 _ _ _ j h=>?_
 .refine j.pa 1 [1,2,3] (λ a9=>[(0,dt a9.1),(10,dt a9.2.2)]) (λ a9 q=>[(9,0,eQ (q 0) 9 a9.2.1)]) b8 λ a9 g3 g4 _ _ _ j h b3=>?_
  refine j.qd [(9,0)] h (λ _ _ j h=>?_) λ _ _ j h=>?_
  .have⟨g5,g6,h⟩:=bs h
   refine j.qo [(9,0)] λ _ _ j=>?_;refine j.qd [(9,0)] h (λ _ _ j h=>?_) λ _ _ j h=>?_
   .have h:=lo h b3
    cases h;exact fz
   refine Ka<|Kx h λ g7 b9 g8 c8 h=>kB h λ g9 d1 h=>j.Aw 8 [(9,0),(49,0)] (λ _ _ j=>?_) (hs:=sc Z (oM Z T)<|
     sc Z (oM Z T)<|
     sc Z (oM Z T)<|
     sc Z (oM Z T)<|
     sc Z (oM Z T)<|
     sc Z (lX Z T T b9)<|
     sc Z (oB Z T T c8)<|
     sc Z (oC Z W3 T T d1)<|.nil)
   refine kB h λ h0 d2 h=>j.storeT (sb:=9) 0 (tp Z) d2 [0,1,2,3,10,11] [] (λ _ _ j=>Kb ?_);refine Kx h λ h1 h2 h3 h4 h=>j.qo [(9,0)] λ _ _ j=>?_;exact kB h λ h5 h6 h=>j.n1 [(9,0)] h
  cases lo h b3;exact fz
 refine Ka<|kB h λ h7 d3 h=>j.Aw 4 [(9,0),(61,0)] (λ _ _ j=>?_) (hs:=sY 3 (r:=by exact sc Z (oC Z W3 T T d3)<|.nil));refine kB h λ h8 d4 h=>j.storeT (sb:=9) 0 (tp Z) d4 [10] [] (λ _ _ j=>Kb ?_);have j:=j.eE 0 (s:=9) Z Z [10] Z [] Z;exact Kx h λ h9 i0 i3 d5 h=>j.e1 h (hs:=sY 3 (r:=by exact sc Z (oG Z (ht:=W3) T T d5)<|lW))⟩
def w8(x0:Str)(x1:Str):Option (List Str):=
(Yq x0 x1 0 (-1)).bind λ v2=>
 some v2
instance:fY prog 156 dt dt dt w8:=⟨@λ x0 x1 r h=>by
 refine fe 0 func156 λ M _ _ j=>?_;refine j.q1 (λ j=>?_) (hs:=sc Z (oA Z (wg (α:=Str)))<|.nil);exact kB h λ v2 p2 h=>j.e1 h⟩
theorem FX:mC prog 101=true:=by kernel_rfl
def ZJ(v2:List Str)(s7:Int):Option (Int⊕(Unit⊕Bool)):=
 ite ((ez .lss s7 v2.length)=true) ((eN v2 s7).bind λ a8=>
(xl a8).bind λ a9=>
 ite ((!a9)=true) (some (.inr (.inr false)))<|(i64 (s7+1)).bind λ b3=>
 some (.inl b3))<|some (.inr (.inl ()))
def ym(x0:Str):Option Bool:=
(w8 x0 ⟨[46]⟩).bind λ v2=>
 Option.bind (zE (λ s7=>ZJ v2 s7) 0) (Sum.elim (λ b5=>
 some (ez .leq v2.length 3)) some)
instance ji:gC prog 111 dt dt ym:=⟨@λ x0 r h=>by
 refine fe 0 func111 λ M w0 _ j=>?_;refine j.q1 λ j=>?_;refine kB h λ v2 p2 h=>j.q1 (λ j=>za ?_);refine j.jb [3] (λ _=>[]) h (λ o5 p5 k5=>?_) λ b5 _ _ j h=>?_
 .refine j.q1 λ j=>?_
  refine j.lp [3,8,9] (λ s7=>[(10,dt s7)]) p5 λ s7 x7 _ _ j h hx7=>?_;refine j.qc h (λ j h=>?_) λ j h=>?_
  .have⟨a8,a9,h⟩:=bs h
   refine j.q1 λ j=>?_;refine kB h λ b3 b6 h=>j.qc h (λ j h=>?_) λ j h=>?_
   .exact j.e1 (jo (lo h hx7) k5)
   exact kB h λ b7 b8 h=>j.n1 [] h
  exact fU (lo h hx7)
 exact j.e1 h⟩
def xm(x0:Str):Option Bool:=
(gO (decide (x0=⟨[]⟩) == false) (ym x0)).bind λ v2=>
 some (decide (x0=⟨[]⟩)||v2)
instance jk:gC prog 154 dt dt xm:=⟨@λ x0 r h=>by
 refine fe 0 func154 λ M _ _ j=>?_;refine j.q1 λ j=>?_;exact kB h λ v2 p2 h=>j.e1 h (hs:=sY 4 (r:=by exact sg Z Z (λ hg=>oK (ji.1 (gh hg p2)))<|lW))⟩
def Z0(x0:Str):Option (List Str):=
(ym x0).bind λ v2=>
 ite ((!v2)=true) (some [])<|(w8 x0 ⟨[46]⟩).bind λ v8=>
 some v8
instance QA:gC prog 219 dt dt Z0:=⟨@λ x0 r h=>by
 refine fe 0 func219 λ M _ _ j=>?_;refine j.q1 (λ j=>?_) (hs:=sc Z (oA Z (wg (α:=Str)))<|.nil);refine kB h λ v2 p2 h=>j.qc h (λ j h=>?_) λ j h=>?_
 .exact j.e1 h (hs:=sc Z (wa (opds:=[]) (α:=Str) Z (ht':=W3) Z Z .nil)<|lW)
 exact kB h λ v8 p8 h=>j.e1 h⟩
def xJ(x0:Str):Option Str:=
(zW x0 (UInt8.ofNat 46)).bind λ v2=>
(ym x0).bind λ v5=>
 ite (((!v5)||ez .lss v2 0)=true) (some ⟨[]⟩)<|(oi x0 v2).bind λ a8=>
 some a8
instance:gC prog 84 dt dt xJ:=⟨@λ x0 r h=>by
 refine fe 0 func84 λ M _ _ j=>?_;refine j.q1 λ j=>?_;refine kB h λ v2 p2 h=>j.q1 λ j=>?_;refine kB h λ v5 p5 h=>j.qc h (λ j h=>?_) (λ j h=>?_) (hs:=sc Z (oM Z T)<|
  sc Z (zy (l:=[.tmp 6]) Z (.cons T .nil) (ji.1 p5))<|
  sc Z (ZQ Z T)<|
  sc Z (oM Z T)<|
  sg Z Z (λ hg=>oM Z T)<|
  sg Z Z (λ hg=>gU Z V cI)<|
  sc Z (qe Z T T)<|.nil)
 .exact j.e1 h
 exact kB h λ a8 a9 h=>j.e1 h⟩
def qg(x0:Str):Option Str:=
(ym x0).bind λ v2=>
 ite ((!v2)=true) (some ⟨[]⟩)<|(zW x0 (UInt8.ofNat 46)).bind λ v8=>
(i64 (v8+1)).bind λ v9=>
(nk x0 v9).bind λ a8=>
 some a8
instance CA:gC prog 88 dt dt qg:=⟨@λ x0 r h=>by
 refine fe 0 func88 λ M _ _ j=>?_;refine j.q1 λ j=>?_;refine kB h λ v2 p2 h=>j.qc h (λ j h=>?_) λ j h=>?_
 .exact j.e1 h
 exact Kx h λ v8 p8 v9 p9 h=>kB h λ a8 a9 h=>j.e1 h⟩
def wE(x0:Str)(x1:Str):Option Str:=
(xm x0).bind λ v2=>
(gO ((!v2) == false) (xl x1)).bind λ v3=>
 ite (((!v2)||(!v3))=true) (some ⟨[]⟩)<|Option.bind (ite ((decide (x0≠⟨[]⟩))=true) ((kT x0 ⟨[46]⟩).bind λ a9=>
(kT a9 x1).bind λ b3=>
 some b3)<|some x1) λ a8=>
(ym a8).bind λ b5=>
 ite ((!b5)=true) (some ⟨[]⟩)<|some a8
instance HK:fY prog 155 dt dt dt wE:=⟨@λ x0 x1 r h=>by
 refine fe 0 func155 λ M w0 _ j=>?_;refine j.q1 λ j=>?_;refine Kx h λ v2 p2 v3 p3 h=>j.qc h (λ j h=>?_) (λ j h=>?_) (hs:=sY 1 (r:=by exact sc Z (oK (jk.1 p2))<|sY 3 (r:=by exact sg Z Z (λ hg=>oK (qm.1 (gh hg p3)))<|lW)))
 .exact j.e1 h
 refine kQ<|za<|j.jm [] (λ a8=>[(1,dt a8)]) h (λ a8 a9=>?_) λ a8 _ _ j h=>?_
 .refine j.qc a9 (λ j h=>?_) λ j h=>?_
  .have⟨b3,b5,h⟩:=bs h
   refine kB h λ b6 b7 h=>j.q1 λ j=>?_;cases h;exact fz
  cases h;exact fz
 refine kB h λ b8 b9 h=>j.qc h (λ j h=>?_) λ j h=>?_
 .exact j.e1 h
 exact j.e1 h⟩
def Z1(x0:Str)(x1:Str):Option Bool:=
(ym x0).bind λ v2=>
(gO ((!v2) == false) (xm x1)).bind λ v3=>
 ite (((!v2)||(!v3))=true) (some false)<|(gO ((decide (x1=⟨[]⟩)||decide (x0=x1)) == false) (kT x1 ⟨[46]⟩)).bind λ a8=>
(gO ((decide (x1=⟨[]⟩)||decide (x0=x1)) == false) (j0 x0 a8)).bind λ a9=>
 some ((decide (x1=⟨[]⟩)||decide (x0=x1))||a9)
instance HL:fY prog 159 dt dt dt Z1:=⟨@λ x0 x1 r h=>by
 refine fe 0 func159 λ M _ _ j=>?_;refine j.q1 λ j=>?_;refine Kx h λ v2 p2 v3 p3 h=>j.qc h (λ j h=>?_) (λ j h=>?_) (hs:=sc Z (oM Z T)<|
  sc Z (zy (l:=[.tmp 5]) Z (.cons T .nil) (ji.1 p2))<|
  sc Z (ZQ Z T)<|
  sc Z (oM Z T)<|
  sg Z Z (λ hg=>oM Z T)<|
  sg Z Z (λ hg=>zy (l:=[.tmp 9]) Z (.cons V .nil) (jk.1 (gh hg p3)))<|
  sg Z Z (λ hg=>ZQ Z V)<|
  sc Z (qe Z T T)<|.nil)
 .exact j.e1 h
 exact Kx h λ b3 a8 b5 a9 h=>j.e1 h (hs:=sc Z (oM Z T)<|
  sc Z (YY Z T (yM))<|
  sc Z (oM Z T)<|
  sg Z Z (λ hg=>oM Z T)<|
  sg Z Z (λ hg=>oM Z T)<|
  sg Z Z (λ hg=>YY Z V V)<|
  sc Z (qe Z T T)<|
  sc Z (oM Z T)<|
  sg Z Z (λ hg=>oM Z T)<|
  sg Z Z (λ hg=>oM Z T)<|
  sg Z Z (λ hg=>nI Z V (yM) (gh hg a8))<|
  sg Z Z (λ hg=>zy (l:=[.tmp 21,.tmp 23]) Z (.cons V (.cons V .nil)) (J2.1 (gh hg a9)))<|
  sc Z (qe Z T T)<|
  sc Z (oA Z T)<|.nil)⟩
