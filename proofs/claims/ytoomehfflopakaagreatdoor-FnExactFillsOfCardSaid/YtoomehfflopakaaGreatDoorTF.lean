import Derived.Test.YtoomehfflopakaaGreatDoorTC
namespace Go.Proofs.YtoomehfflopakaaGreatDoor
open Go.RowKit Tryz
attribute [local irreducible] OpRel OpdR
set_option maxRecDepth 10000
variable{r:Bool}{x2 x3:Int}{x0 x1:Str}
theorem zN:prog.follows .mixedOrders=true:=by kernel_rfl
theorem kF45_0:fldB prog 45 0 0=true:=by kernel_rfl
theorem kF45_1:fldB prog 45 1 1=true:=by kernel_rfl
theorem kF45_3:fldB prog 45 3 3=true:=by kernel_rfl
theorem kF45_2:fldB prog 45 2 2=true:=by kernel_rfl
theorem kL101:isSl prog 101=true:=by kernel_rfl
theorem WC:slB prog 101 1=true:=by kernel_rfl
theorem kS23:slB prog 23 1=true:=by kernel_rfl
def yt(x0:Int)(x1:Int)(x2:Int):Option Bool:=
some (cmpI .leq x1 x0&&cmpI .leq x0 x2)
theorem yM{x0 x1}(h:yt x0 x1 x2=some r):Fn prog 32 [dt x0,dt x1,dt x2] (dt r):=by
 refine fq1 0 func32 λ M _ _ j=>?_
 refine j.q1 λ j=>?_
 exact j.e1 h
instance:Ct3 prog 32 dt dt dt dt yt:=⟨λ h=>yM h⟩
def yg(x0:Int)(x1:Int)(x2:Int):Option Bool:=
some (cmpI .geq x0 x1&&cmpI .leq x0 x2)
theorem yQ{x0 x1}(h:yg x0 x1 x2=some r):Fn prog 67 [dt x0,dt x1,dt x2] (dt r):=by
 refine fq1 0 func67 λ M _ _ j=>?_
 refine j.q1 λ j=>?_
 exact j.e1 h
instance:Ct3 prog 67 dt dt dt dt yg:=⟨λ h=>yQ h⟩
def ZE(x0:File)(x1:File):Option Bool:=
some (((cmpI .eql x0.root x1.root&&decide (x0.pkg=x1.pkg))&&(x0.init == x1.init))&&decide (x0.name=x1.name))
theorem zea{x0 x1}(h:ZE x0 x1=some r):Fn prog 200 [dt x0,dt x1] (dt r):=by
 refine fq1 0 func200 λ M _ _ j=>?_
 refine j.q1 λ j=>?_
 exact j.e1 h
instance:Ct2 prog 200 dt dt dt ZE:=⟨λ h=>zea h⟩
def ZF(x0:List Str)(x1:Str)(s4:Int):Option (Int⊕(Unit⊕Int)):=
if(cmpI .lss s4 (x0.length:Int))=true then((atI x0 s4).bind λ v9=>
if(decide (v9=x1))=true then(some (.inr (.inr s4)))
else((i64 (s4+(1:Int))).bind λ a8=>
some (.inl a8)))
else(some (.inr (.inl ())))
def WZ(x0:List Str)(x1:Str):Option Int:=
Option.bind (α:=Unit⊕Int) (zE (λ s4=>ZF x0 x1 s4) (0:Int)) (Sum.elim (λ _b2=>
some (-1:Int)) some)
theorem spec_textAt_w{x0 r}(h:WZ x0 x1=some r):Fn prog 224 [dt x0,dt x1] (dt r):=by
 refine fq1 0 func224 λ M w0 _ j=>?_
 refine j.q1 (λ j=>za ?_)
 refine j.jb [] (λ _=>[]) h (λ o2 p2 k2=>?_) λ b2 _ _ j h=>?_
 ·refine j.q1 λ j=>?_
  refine j.lp [0,1] (λ s4=>[(5,dt s4)]) p2 λ s4 x4 _ _ j h hx4=>?_
  refine j.qc h (λ j h=>?_) λ j h=>?_
  ·have⟨v9,p9,h⟩:=bs h
   refine j.qc h (λ j h=>?_) λ j h=>?_
   ·exact j.e1 (jo (lo h hx4) k2)
   have⟨a8,a9,h⟩:=bs h
   exact j.n1 [] h
  have h:=lo h hx4
  exact flz h
 exact j.e1 h
instance:Ct2 prog 224 dt dt dt WZ:=⟨λ h=>spec_textAt_w h⟩
def ZG(x0:List Str)(x1:Str):Option Bool:=
(WZ x0 x1).bind λ v2=>
some (cmpI .geq v2 0)
theorem zfa{x0}(h:ZG x0 x1=some r):Fn prog 206 [dt x0,dt x1] (dt r):=by
 refine fq1 0 func206 λ M _ _ j=>?_
 refine j.q1 λ j=>?_
 have⟨v2,p2,h⟩:=bs h
 exact j.e1 h
instance:Ct2 prog 206 dt dt dt ZG:=⟨λ h=>zfa h⟩
def Zp(x0:Str)(a8:Int):Option (Int⊕(Unit⊕Bool)):=
if(cmpI .lss a8 (x0.l.length:Int))=true then((atI x0.l a8).bind λ a9=>
(gO (cmpB .lss a9 (UInt8.ofNat 97) == false) (atI x0.l a8)).bind λ b3=>
if(cmpB .lss a9 (UInt8.ofNat 97)||cmpB .gtr b3 (UInt8.ofNat 122))=true then(some (.inr (.inr false)))
else((i64 (a8+(1:Int))).bind λ b5=>
some (.inl b5)))
else(some (.inr (.inl ())))
def wg(x0:Str):Option Bool:=
(yt (x0.l.length:Int) (1:Int) (3:Int)).bind λ v2=>
if(!v2)=true then(some false)
else(Option.bind (α:=Unit⊕Bool) (zE (λ a8=>Zp x0 a8) (0:Int)) (Sum.elim (λ _b8=>
some true) some))
theorem ZH(h:wg x0=some r):Fn prog 92 [dt x0] (dt r):=by
 refine fq1 0 func92 λ M w0 _ j=>?_
 refine j.q1 λ j=>?_
 have⟨v2,p2,h⟩:=bs h
 refine j.qc h (λ j h=>?_) λ j h=>?_
 ·exact j.e1 h
 refine wqk<|za<|j.jb [] (λ _=>[]) h (λ o8 p8 k8=>?_) λ b8 _ _ j h=>?_
 ·refine j.q1 λ j=>?_
  refine j.lp [0] (λ a9=>[(3,dt a9)]) p8 λ a9 b3 _ _ j h a8=>?_
  refine j.qc h (λ j h=>?_) λ j h=>?_
  ·have⟨b5,b6,h⟩:=bs h
   have⟨b7,b9,h⟩:=bs h
   refine j.qc h (λ j h=>?_) λ j h=>?_
   ·exact j.e1 (jo (lo h a8) k8)
   have⟨c8,d1,h⟩:=bs h
   exact j.n1 [] h
  have h:=lo h a8
  exact flz h
 exact j.e1 h
instance:Ct1 prog 92 dt dt wg:=⟨λ h=>ZH h⟩
def Zq(x0:Str)(s4:Int):Option (Int⊕(Unit⊕Bool)):=
if(cmpI .lss s4 (x0.l.length:Int))=true then((atI x0.l s4).bind λ a8=>
(gO (cmpB .lss a8 (UInt8.ofNat 97) == false) (atI x0.l s4)).bind λ a9=>
if(cmpB .lss a8 (UInt8.ofNat 97)||cmpB .gtr a9 (UInt8.ofNat 122))=true then(some (.inr (.inr false)))
else((i64 (s4+(1:Int))).bind λ b3=>
some (.inl b3)))
else(some (.inr (.inl ())))
def xh(x0:Str):Option Bool:=
Option.bind (α:=Unit⊕Bool) (zE (λ s4=>Zq x0 s4) (0:Int)) (Sum.elim (λ _b2=>
(yg (x0.l.length:Int) (1:Int) (3:Int)).bind λ a8=>
some a8) some)
theorem jW(h:xh x0=some r):Fn prog 139 [dt x0] (dt r):=by
 refine fq1 0 func139 λ M w0 _ j=>?_
 refine j.q1 (λ j=>za ?_)
 refine j.jb [0] (λ _=>[]) h (λ o2 p2 k2=>?_) λ b2 _ _ j h=>?_
 ·refine j.q1 λ j=>?_
  refine j.lp [0,5] (λ s4=>[(6,dt s4)]) p2 λ s4 x4 _ _ j h hx4=>?_
  refine j.qc h (λ j h=>?_) λ j h=>?_
  ·refine j.q1 λ j=>?_
   have⟨a8,a9,b3,b5,h⟩:=Ke h
   refine j.qc h (λ j h=>?_) λ j h=>?_
   ·exact j.e1 (jo (lo h hx4) k2)
   have⟨b6,b7,h⟩:=bs h
   exact j.n1 [] h
  have h:=lo h hx4
  exact flz h
 have⟨b8,b9,h⟩:=bs h
 exact j.e1 h
instance:Ct1 prog 139 dt dt xh:=⟨λ h=>jW h⟩
def wS(x0:List Int)(x1:Int)(s4:Int):Option (Int⊕(Unit⊕Int)):=
if(cmpI .lss s4 (x0.length:Int))=true then((atI x0 s4).bind λ a8=>
if cmpI .eql x1 a8 then(some (.inr (.inr s4)))
else((i64 (s4+(1:Int))).bind λ a9=>
some (.inl a9)))
else(some (.inr (.inl ())))
def wv(x0:List Int)(x1:Int):Option Int:=
Option.bind (α:=Unit⊕Int) (zE (λ s4=>wS x0 x1 s4) (0:Int)) (Sum.elim (λ _b2=>
some (-1:Int)) some)
theorem zau{x0 x1 r}(h:wv x0 x1=some r):Fn prog 112 [dt x0,dt x1] (dt r):=by
 refine fq1 0 func112 λ M w0 _ j=>?_
 refine j.q1 (λ j=>za ?_)
 refine j.jb [] (λ _=>[]) h (λ o2 p2 k2=>?_) λ b2 _ _ j h=>?_
 ·refine j.q1 λ j=>?_
  refine j.lp [0,1,7] (λ s4=>[(8,dt s4)]) p2 λ s4 x4 _ _ j h hx4=>?_
  refine j.qc h (λ j h=>?_) λ j h=>?_
  ·refine j.q1 λ j=>?_
   have⟨a8,a9,h⟩:=bs h
   refine j.qc h (λ j h=>?_) λ j h=>?_
   ·exact j.e1 (jo (lo h hx4) k2)
   have⟨b3,b5,h⟩:=bs h
   exact j.n1 [] h
  have h:=lo h hx4
  exact flz h
 exact j.e1 h
instance:Ct2 prog 112 dt dt dt wv:=⟨λ h=>zau h⟩
def zW(x0:List Str)(x1:Str)(s4:Int):Option (Int⊕(Unit⊕Int)):=
if(cmpI .lss s4 (x0.length:Int))=true then((atI x0 s4).bind λ a8=>
if(decide (x1=a8))=true then(some (.inr (.inr s4)))
else((i64 (s4+(1:Int))).bind λ a9=>
some (.inl a9)))
else(some (.inr (.inl ())))
def xe(x0:List Str)(x1:Str):Option Int:=
Option.bind (α:=Unit⊕Int) (zE (λ s4=>zW x0 x1 s4) (0:Int)) (Sum.elim (λ _b2=>
some (-1:Int)) some)
theorem Ju{x0 r}(h:xe x0 x1=some r):Fn prog 173 [dt x0,dt x1] (dt r):=by
 refine fq1 0 func173 λ M w0 _ j=>?_
 refine j.q1 (λ j=>za ?_)
 refine j.jb [] (λ _=>[]) h (λ o2 p2 k2=>?_) λ b2 _ _ j h=>?_
 ·refine j.q1 λ j=>?_
  refine j.lp [0,1,7] (λ s4=>[(8,dt s4)]) p2 λ s4 x4 _ _ j h hx4=>?_
  refine j.qc h (λ j h=>?_) λ j h=>?_
  ·refine j.q1 λ j=>?_
   have⟨a8,a9,h⟩:=bs h
   refine j.qc h (λ j h=>?_) λ j h=>?_
   ·exact j.e1 (jo (lo h hx4) k2)
   have⟨b3,b5,h⟩:=bs h
   exact j.n1 [] h
  have h:=lo h hx4
  exact flz h
 exact j.e1 h
instance:Ct2 prog 173 dt dt dt xe:=⟨λ h=>Ju h⟩
def xM(x0:List Int)(x1:Int):Option Bool:=
(wv x0 x1).bind λ v2=>
some (cmpI .geq v2 0)
theorem Xn{x0 x1}(h:xM x0 x1=some r):Fn prog 68 [dt x0,dt x1] (dt r):=by
 refine fq1 0 func68 λ M _ _ j=>?_
 refine j.q1 λ j=>?_
 have⟨v2,p2,h⟩:=bs h
 exact j.e1 h
instance:Ct2 prog 68 dt dt dt xM:=⟨λ h=>Xn h⟩
def zP(x0:List Str)(x1:Str):Option Bool:=
(xe x0 x1).bind λ v2=>
some (cmpI .geq v2 0)
theorem Zo{x0}(h:zP x0 x1=some r):Fn prog 134 [dt x0,dt x1] (dt r):=by
 refine fq1 0 func134 λ M _ _ j=>?_
 refine j.q1 λ j=>?_
 have⟨v2,p2,h⟩:=bs h
 exact j.e1 h
instance:Ct2 prog 134 dt dt dt zP:=⟨λ h=>Zo h⟩
theorem kE101:elB prog 101 9 1 16=true:=by kernel_rfl
theorem kZ9:zeroCells prog 9=some Wa:=by kernel_rfl
def xm(x0:Str)(x1:Str):Option Bool:=
(gO (cmpI .geq (x0.l.length:Int) (x1.l.length:Int) == true) (cutHO x0 (x1.l.length:Int))).bind λ v2=>
some (cmpI .geq (x0.l.length:Int) (x1.l.length:Int)&&decide (v2=x1))
theorem Wc(h:xm x0 x1=some r):Fn prog 215 [dt x0,dt x1] (dt r):=by
 refine fq1 0 func215 λ M _ _ j=>?_
 refine j.q1 λ j=>?_
 have⟨v2,p2,h⟩:=bs h
 exact j.e1 h
instance:Ct2 prog 215 dt dt dt xm:=⟨λ h=>Wc h⟩
def jL(x0:Str)(x1:Str):Option Bool:=
(xm x0 x1).bind λ v2=>
some v2
theorem JA(h:jL x0 x1=some r):Fn prog 193 [dt x0,dt x1] (dt r):=by
 refine fq1 0 func193 λ M _ _ j=>?_
 refine j.q1 λ j=>?_
 have⟨v2,p2,h⟩:=bs h
 exact j.e1 h
instance:Ct2 prog 193 dt dt dt jL:=⟨λ h=>JA h⟩
def ya(x0:Str)(x1:UInt8)(s6:Int):Option (Int⊕(Unit⊕Int)):=
if cmpI .geq s6 0 then((atI x0.l s6).bind λ a8=>
if(cmpB .eql a8 x1)=true then(some (.inr (.inr s6)))
else((i64 (s6 - (1:Int))).bind λ a9=>
some (.inl a9)))
else(some (.inr (.inl ())))
def yN(x0:Str)(x1:UInt8):Option Int:=
Option.bind (α:=Unit⊕Int) ((i64 ((x0.l.length:Int) - (1:Int))).bind λ v3=>
zE (λ s6=>ya x0 x1 s6) v3) (Sum.elim (λ _b2=>
some (-1:Int)) some)
theorem YS{x1 r}(h:yN x0 x1=some r):Fn prog 174 [dt x0,dt x1] (dt r):=by
 refine fq1 0 func174 λ M w0 _ j=>?_
 refine j.q1 (λ j=>za ?_)
 refine j.jb [] (λ _=>[]) h (λ o2 p2 k2=>?_) λ b2 _ _ j h=>?_
 ·have⟨v3,p3,h⟩:=bs p2
  refine j.q1 λ j=>?_
  refine j.lp [0,1] (λ s6=>[(5,dt s6)]) h λ s6 x6 _ _ j h hx6=>?_
  refine j.qc h (λ j h=>?_) λ j h=>?_
  ·have⟨a8,a9,h⟩:=bs h
   refine j.qc h (λ j h=>?_) λ j h=>?_
   ·exact j.e1 (jo (lo h hx6) k2)
   have⟨b3,b5,h⟩:=bs h
   exact j.n1 [] h
  have h:=lo h hx6
  exact flz h
 exact j.e1 h
instance:Ct2 prog 174 dt dt dt yN:=⟨λ h=>YS h⟩
def zU(x0:Str)(x1:UInt8):Option Int:=
(yN x0 x1).bind λ v2=>
some v2
theorem Q4{x1 r}(h:zU x0 x1=some r):Fn prog 135 [dt x0,dt x1] (dt r):=by
 refine fq1 0 func135 λ M _ _ j=>?_
 refine j.q1 λ j=>?_
 have⟨v2,p2,h⟩:=bs h
 exact j.e1 h
instance:Ct2 prog 135 dt dt dt zU:=⟨λ h=>Q4 h⟩
def wT(x1:Str)(x2:Int)(b3:Int)(a8:Str×(List Str)×Int):Option ((Str×(List Str)×Int)⊕(Str×(List Str)×Int)):=
if cmpI .lss a8.2.2 b3 then((wP a8.1 x1).bind λ a9=>
if cmpI .lss a9 0 then(some (.inr (a8.1,a8.2.1,a8.2.2)))
else((i64 (a9+x2)).bind λ b5=>
(cutHO a8.1 b5).bind λ b6=>
(atI a8.2.1 a8.2.2).bind λ _d1=>
(setO a8.2.1 a8.2.2 b6).bind λ b7=>
(i64 (a9+(x1.l.length:Int))).bind λ b8=>
(zb3 a8.1 b8).bind λ b9=>
(i64 (a8.2.2+(1:Int))).bind λ c8=>
some (.inl (b9,b7,c8))))
else(some (.inr (a8.1,a8.2.1,a8.2.2)))
def Z6(x0:Str)(x1:Str)(x2:Int)(x3:Int):Option (List Str):=
if cmpI .eql x3 0 then(some ([]:List Str))
else(if(decide (x1=(⟨[]⟩:Str)))=true then((Wb x0 x3).bind λ v9=>
some v9)
else(Option.bind (α:=Int) (if cmpI .lss x3 0 then((Yd x0 x1).bind λ b5=>
(i64 (b5+(1:Int))).bind λ b6=>
some b6)
else(some x3)) λ a9=>
(i64 ((x0.l.length:Int)+(1:Int))).bind λ b3=>
(zaK 1 16 (if b3<a9 then b3 else a9) zStr).bind λ b7=>
(i64 ((if b3<a9 then b3 else a9) - (1:Int))).bind λ b8=>
Option.bind (α:=Str×(List Str)×Int) (zE (λ b9=>wT x1 x2 b8 b9) (x0,b7,(0:Int))) λ a8=>
(atI a8.2.1 a8.2.2).bind λ _d3=>
(setO a8.2.1 a8.2.2 a8.1).bind λ c8=>
(i64 (a8.2.2+(1:Int))).bind λ d1=>
(WB c8 d1).bind λ d2=>
some d2))
theorem zcI{r}(h:Z6 x0 x1 x2 x3=some r):Fn prog 192 [dt x0,dt x1,dt x2,dt x3] (dt r):=by
 refine fq1 1 func192 λ M w0 _ j=>?_
 refine j.q1 (λ j=>?_) (hs:=sc Z (oA Z (wu (α:=Str)))<|.nil)
 refine j.qc h (λ j h=>?_) λ j h=>?_
 ·exact j.e1 h (hs:=sc Z (oA Z (wu (α:=Str)))<|.nil)
 refine j.qc h (λ j h=>?_) λ j h=>?_
 ·have⟨v9,p9,h⟩:=bs h
  exact j.e1 h
 refine wqk<|za<|j.jmq 1 [0,1,2] (λ b5=>[(3,dt b5)]) (λ _ _=>[]) h (λ b5 b6=>?_) λ b5 d6 _ _ _ j h=>?_
 ·refine j.qc b6 (λ j h=>?_) λ j h=>?_
  ·have⟨d7,e0,h⟩:=bs h
   have⟨e3,e4,h⟩:=bs h
   refine j.q1 λ j=>?_
   cases h
   exact fz
  cases h
  exact fz
 have⟨e5,e6,h⟩:=bs h
 refine j.q1 (λ j=>QY ?_)
 refine j.g1 1 λ _ _ j=>?_
 have⟨e7,b7,h⟩:=bs h
 refine j.make 0 Z Z kE101 kZ9 Q1 Z (gl Z) b7 [0,1,2,3] Z [] Z Z λ e8 _ _ _ j=>?_
 refine j.go_ 1 [(9,0)] (λ _ _ j=>Wz ?_)
 have⟨e9,f9,h⟩:=bs h
 refine j.qo [(9,0)] λ _ _ j=>?_
 refine j.qo [(9,0)] (λ _ _ j=>za ?_)
 refine j.jmq 1 [] (λ a8=>[(0,dt a8.1),(10,dt a8.2.2)]) (λ a8 q=>[(9,0,dtip (q 0) 9 a8.2.1)]) h (λ a8 b8=>?_) λ a8 g0 _ _ _ j h=>?_
 ·refine j.lpq 1 [1,2,3] (λ a9=>[(0,dt a9.1),(10,dt a9.2.2)]) (λ a9 q=>[(9,0,dtip (q 0) 9 a9.2.1)]) b8 λ a9 g3 g4 _ _ _ j h b3=>?_
  refine j.qd [(9,0)] h (λ _ _ j h=>?_) λ _ _ j h=>?_
  ·have⟨g5,g6,h⟩:=bs h
   refine j.qo [(9,0)] λ _ _ j=>?_
   refine j.qd [(9,0)] h (λ _ _ j h=>?_) λ _ _ j h=>?_
   ·have h:=lo h b3
    cases h
    exact fz
   have⟨g7,b9,g8,c8,h⟩:=Ke h
   have⟨g9,d1,h⟩:=bs h
   refine QY<|j.go_ 8 [(9,0),(49,0)] (λ _ _ j=>?_) (hs:=sc Z (oM Z T)<|
     sc Z (oM Z T)<|
     sc Z (oM Z T)<|
     sc Z (oM Z T)<|
     sc Z (oM Z T)<|
     sc Z (xAr Z T T b9)<|
     sc Z (xCutH Z T T c8)<|
     sc Z (xIdxT Z WC T T d1)<|.nil)
   have⟨h0,d2,h⟩:=bs h
   refine j.storeT (sb:=9) 0 (tp Z) d2 [0,1,2,3,10,11] [] (λ _ _ j=>Wz ?_)
   have⟨h1,h2,h3,h4,h⟩:=Ke h
   refine j.qo [(9,0)] λ _ _ j=>?_
   have⟨h5,h6,h⟩:=bs h
   exact j.n1 [(9,0)] h
  have h:=lo h b3
  cases h
  exact fz
 have⟨h7,d3,h⟩:=bs h
 refine QY<|j.go_ 4 [(9,0),(61,0)] (λ _ _ j=>?_) (hs:=sY 3 (r:=by exact sc Z (xIdxT Z WC T T d3)<|.nil))
 have⟨h8,d4,h⟩:=bs h
 refine j.storeT (sb:=9) 0 (tp Z) d4 [10] [] (λ _ _ j=>Wz ?_)
 have j:=j.frz 0 (s:=9) Z Z [10] Z [] Z
 have⟨h9,i0,i3,d5,h⟩:=Ke h
 exact j.e1 h (hs:=sY 3 (r:=by exact sc Z (xSliH Z (ht:=WC) T T d5)<|segY))
instance:Ct4 prog 192 dt dt dt dt dt Z6:=⟨λ h=>zcI h⟩
def wQ(x0:Str)(x1:Str):Option (List Str):=
(Z6 x0 x1 (0:Int) (-1:Int)).bind λ v2=>
some v2
theorem zeQ{r}(h:wQ x0 x1=some r):Fn prog 156 [dt x0,dt x1] (dt r):=by
 refine fq1 0 func156 λ M _ _ j=>?_
 refine j.q1 (λ j=>?_) (hs:=sc Z (oA Z (wu (α:=Str)))<|.nil)
 have⟨v2,p2,h⟩:=bs h
 exact j.e1 h
instance:Ct2 prog 156 dt dt dt wQ:=⟨λ h=>zeQ h⟩
theorem kY101:zlB prog 101=true:=by kernel_rfl
def Zr(v2:List Str)(s7:Int):Option (Int⊕(Unit⊕Bool)):=
if(cmpI .lss s7 (v2.length:Int))=true then((atI v2 s7).bind λ a8=>
(xh a8).bind λ a9=>
if(!a9)=true then(some (.inr (.inr false)))
else((i64 (s7+(1:Int))).bind λ b3=>
some (.inl b3)))
else(some (.inr (.inl ())))
def ym(x0:Str):Option Bool:=
(wQ x0 (⟨[46]⟩:Str)).bind λ v2=>
Option.bind (α:=Unit⊕Bool) (zE (λ s7=>Zr v2 s7) (0:Int)) (Sum.elim (λ _b5=>
some (cmpI .leq (v2.length:Int) 3)) some)
theorem wV(h:ym x0=some r):Fn prog 111 [dt x0] (dt r):=by
 refine fq1 0 func111 λ M w0 _ j=>?_
 refine j.q1 λ j=>?_
 have⟨v2,p2,h⟩:=bs h
 refine j.q1 (λ j=>za ?_)
 refine j.jb [3] (λ _=>[]) h (λ o5 p5 k5=>?_) λ b5 _ _ j h=>?_
 ·refine j.q1 λ j=>?_
  refine j.lp [3,8,9] (λ s7=>[(10,dt s7)]) p5 λ s7 x7 _ _ j h hx7=>?_
  refine j.qc h (λ j h=>?_) λ j h=>?_
  ·have⟨a8,a9,h⟩:=bs h
   refine j.q1 λ j=>?_
   have⟨b3,b6,h⟩:=bs h
   refine j.qc h (λ j h=>?_) λ j h=>?_
   ·exact j.e1 (jo (lo h hx7) k5)
   have⟨b7,b8,h⟩:=bs h
   exact j.n1 [] h
  have h:=lo h hx7
  exact flz h
 exact j.e1 h
instance:Ct1 prog 111 dt dt ym:=⟨λ h=>wV h⟩
def xi(x0:Str):Option Bool:=
(gO (decide (x0=(⟨[]⟩:Str)) == false) (ym x0)).bind λ v2=>
some (decide (x0=(⟨[]⟩:Str))||v2)
theorem wW(h:xi x0=some r):Fn prog 154 [dt x0] (dt r):=by
 refine fq1 0 func154 λ M _ _ j=>?_
 refine j.q1 λ j=>?_
 have⟨v2,p2,h⟩:=bs h
 exact j.e1 h (hs:=sY 4 (r:=by exact sg Z Z (λ hg=>oK (wV (gh hg p2)))<|segY))
instance:Ct1 prog 154 dt dt xi:=⟨λ h=>wW h⟩
def ZI(x0:Str):Option (List Str):=
(ym x0).bind λ v2=>
if(!v2)=true then(some ([]:List Str))
else((wQ x0 (⟨[46]⟩:Str)).bind λ v8=>
some v8)
theorem J7{r}(h:ZI x0=some r):Fn prog 219 [dt x0] (dt r):=by
 refine fq1 0 func219 λ M _ _ j=>?_
 refine j.q1 (λ j=>?_) (hs:=sc Z (oA Z (wu (α:=Str)))<|.nil)
 have⟨v2,p2,h⟩:=bs h
 refine j.qc h (λ j h=>?_) λ j h=>?_
 ·exact j.e1 h (hs:=sc Z (xH (opds:=[]) (α:=Str) Z (ht':=WC) Z Z .nil)<|segY)
 have⟨v8,p8,h⟩:=bs h
 exact j.e1 h
instance:Ct1 prog 219 dt dt ZI:=⟨λ h=>J7 h⟩
def xz(x0:Str):Option Str:=
(zU x0 (UInt8.ofNat 46)).bind λ v2=>
(ym x0).bind λ v5=>
if((!v5)||cmpI .lss v2 0)=true then(some (⟨[]⟩:Str))
else((cutHO x0 v2).bind λ a8=>
some a8)
theorem zeR{r}(h:xz x0=some r):Fn prog 84 [dt x0] (dt r):=by
 refine fq1 0 func84 λ M _ _ j=>?_
 refine j.q1 λ j=>?_
 have⟨v2,p2,h⟩:=bs h
 refine j.q1 λ j=>?_
 have⟨v5,p5,h⟩:=bs h
 refine j.qc h (λ j h=>?_) (λ j h=>?_) (hs:=sc Z (oM Z T)<|
  sc Z (zA (l:=[.tmp 6]) Z (.cons T .nil) (wV p5))<|
  sc Z (XR Z T)<|
  sc Z (oM Z T)<|
  sg Z Z (λ hg=>oM Z T)<|
  sg Z Z (λ hg=>oCI Z V cI)<|
  sc Z (qm Z T T)<|.nil)
 ·exact j.e1 h
 have⟨a8,a9,h⟩:=bs h
 exact j.e1 h
instance:Ct1 prog 84 dt dt xz:=⟨λ h=>zeR h⟩
def jS(x0:Str):Option Str:=
(ym x0).bind λ v2=>
if(!v2)=true then(some (⟨[]⟩:Str))
else((zU x0 (UInt8.ofNat 46)).bind λ v8=>
(i64 (v8+(1:Int))).bind λ v9=>
(zb3 x0 v9).bind λ a8=>
some a8)
theorem QL{r}(h:jS x0=some r):Fn prog 88 [dt x0] (dt r):=by
 refine fq1 0 func88 λ M _ _ j=>?_
 refine j.q1 λ j=>?_
 have⟨v2,p2,h⟩:=bs h
 refine j.qc h (λ j h=>?_) λ j h=>?_
 ·exact j.e1 h
 have⟨v8,p8,v9,p9,h⟩:=Ke h
 have⟨a8,a9,h⟩:=bs h
 exact j.e1 h
instance:Ct1 prog 88 dt dt jS:=⟨λ h=>QL h⟩
def ww(x0:Str)(x1:Str):Option Str:=
(xi x0).bind λ v2=>
(gO ((!v2) == false) (xh x1)).bind λ v3=>
if((!v2)||(!v3))=true then(some (⟨[]⟩:Str))
else(Option.bind (α:=Str) (if(decide (x0≠(⟨[]⟩:Str)))=true then((catO x0 (⟨[46]⟩:Str)).bind λ a9=>
(catO a9 x1).bind λ b3=>
some b3)
else(some x1)) λ a8=>
(ym a8).bind λ b5=>
if(!b5)=true then(some (⟨[]⟩:Str))
else(some a8))
theorem za7{r}(h:ww x0 x1=some r):Fn prog 155 [dt x0,dt x1] (dt r):=by
 refine fq1 0 func155 λ M w0 _ j=>?_
 refine j.q1 λ j=>?_
 have⟨v2,p2,v3,p3,h⟩:=Ke h
 refine j.qc h (λ j h=>?_) (λ j h=>?_) (hs:=sY 1 (r:=by exact sc Z (oK (wW p2))<|sY 3 (r:=by exact sg Z Z (λ hg=>oK (jW (gh hg p3)))<|segY)))
 ·exact j.e1 h
 refine wqk<|za<|j.jm [] (λ a8=>[(1,dt a8)]) h (λ a8 a9=>?_) λ a8 _ _ j h=>?_
 ·refine j.qc a9 (λ j h=>?_) λ j h=>?_
  ·have⟨b3,b5,h⟩:=bs h
   have⟨b6,b7,h⟩:=bs h
   refine j.q1 λ j=>?_
   cases h
   exact fz
  cases h
  exact fz
 have⟨b8,b9,h⟩:=bs h
 refine j.qc h (λ j h=>?_) λ j h=>?_
 ·exact j.e1 h
 exact j.e1 h
instance:Ct2 prog 155 dt dt dt ww:=⟨λ h=>za7 h⟩
def ZJ(x0:Str)(x1:Str):Option Bool:=
(ym x0).bind λ v2=>
(gO ((!v2) == false) (xi x1)).bind λ v3=>
if((!v2)||(!v3))=true then(some false)
else((gO ((decide (x1=(⟨[]⟩:Str))||decide (x0=x1)) == false) (catO x1 (⟨[46]⟩:Str))).bind λ a8=>
(gO ((decide (x1=(⟨[]⟩:Str))||decide (x0=x1)) == false) (jL x0 a8)).bind λ a9=>
some ((decide (x1=(⟨[]⟩:Str))||decide (x0=x1))||a9))
theorem za8(h:ZJ x0 x1=some r):Fn prog 159 [dt x0,dt x1] (dt r):=by
 refine fq1 0 func159 λ M _ _ j=>?_
 refine j.q1 λ j=>?_
 have⟨v2,p2,v3,p3,h⟩:=Ke h
 refine j.qc h (λ j h=>?_) (λ j h=>?_) (hs:=sc Z (oM Z T)<|
  sc Z (zA (l:=[.tmp 5]) Z (.cons T .nil) (wV p2))<|
  sc Z (XR Z T)<|
  sc Z (oM Z T)<|
  sg Z Z (λ hg=>oM Z T)<|
  sg Z Z (λ hg=>zA (l:=[.tmp 9]) Z (.cons V .nil) (wW (gh hg p3)))<|
  sg Z Z (λ hg=>XR Z V)<|
  sc Z (qm Z T T)<|.nil)
 ·exact j.e1 h
 have⟨b3,a8,b5,a9,h⟩:=Ke h
 exact j.e1 h (hs:=sc Z (oM Z T)<|
  sc Z (YD Z T (yS))<|
  sc Z (oM Z T)<|
  sg Z Z (λ hg=>oM Z T)<|
  sg Z Z (λ hg=>oM Z T)<|
  sg Z Z (λ hg=>YD Z V V)<|
  sc Z (qm Z T T)<|
  sc Z (oM Z T)<|
  sg Z Z (λ hg=>oM Z T)<|
  sg Z Z (λ hg=>oM Z T)<|
  sg Z Z (λ hg=>xCat Z V (yS) (gh hg a8))<|
  sg Z Z (λ hg=>zA (l:=[.tmp 21,.tmp 23]) Z (.cons V (.cons V .nil)) (JA (gh hg a9)))<|
  sc Z (qm Z T T)<|
  sc Z (oA Z T)<|.nil)
instance:Ct2 prog 159 dt dt dt ZJ:=⟨λ h=>za8 h⟩
