import Derived.Test.YtoomehfflopakaaGreatDoorTO
import Derived.Test.YtoomehfflopakaaGreatDoorTF
namespace Go.Proofs.YtoomehfflopakaaGreatDoor
open Go.RowKit Tryz
attribute [local irreducible] eP eC
set_option maxRecDepth 10000
set_option maxHeartbeats 1600000
variable{r:Bool}{x1:File}{x2:Str}{x0:Tree}
theorem OZ:fR prog 109 0 0=true:=by kernel_rfl
theorem FE:∀ {M:Nat->Prop} {look:Nat->Option Dt} {o:Oper} {q0:Operand} {y0:Int},o.op=.build 109 #[(0,q0)]->eC M look q0 (dt y0)->eP prog M look o (dt (⟨y0,⟨[]⟩,0,⟨[]⟩,0⟩:Stmt)):=@λ _ _ _ q0 y0 ho h0=>yf (parts:=[(0,q0)]) (ns:=[1,1,1,1,1]) (zs:=VT) Z ho (λ w a hl=>FA ⟨(by decide:0<5),ey.len (α:=Int) (eC.cells h0 hl)⟩ FN) (λ w a hl=>Stmt.parts (x:=(⟨y0,⟨[]⟩,0,⟨[]⟩,0⟩:Stmt)) (eC.cells h0 hl) Qu ⟨Z,trivial⟩ Qu ⟨Z,trivial⟩)
theorem FY:zeroCells prog 109=some IA:=by kernel_rfl
theorem PM:fM prog 109 true 5=true:=by kernel_rfl
theorem O0:fR prog 109 1 1=true:=by kernel_rfl
theorem FH:fR prog 109 4 4=true:=by kernel_rfl
theorem O1:fR prog 109 2 2=true:=by kernel_rfl
theorem tK:fR prog 109 3 3=true:=by kernel_rfl
def XQ(x0:Stmt):Option Bool:=
 Option.bind (ite (ez .eql x0.kind 0) (some (ez .eql x0.kind 0))<|some (ez .eql x0.kind 2)) λ o8=>
 ite (o8=true) ((gO (decide (x0={ (⟨x0.kind,⟨[]⟩,0,⟨[]⟩,0⟩:Stmt) with module:=x0.module }) == true) (ym x0.module)).bind λ b5=>
 some (decide (x0={ (⟨x0.kind,⟨[]⟩,0,⟨[]⟩,0⟩:Stmt) with module:=x0.module })&&b5))<|ite (ez .eql x0.kind 1) ((gO (ez .eql x0.value 0 == true) (yg x0.level 0 3)).bind λ a8=>
(gO ((ez .eql x0.value 0&&a8) == true) (xl x0.name)).bind λ a9=>
(gO (((ez .eql x0.value 0&&a8)&&a9) == true) (ym x0.module)).bind λ b6=>
 some (((ez .eql x0.value 0&&a8)&&a9)&&(b6||(decide (x0.module=⟨[]⟩)&&ez .geq x0.level 1))))<|ite (ez .eql x0.kind 3) ((gO (decide (x0={ { (⟨x0.kind,⟨[]⟩,0,⟨[]⟩,0⟩:Stmt) with name:=x0.name } with value:=x0.value }) == true) (xl x0.name)).bind λ b3=>
(gO ((decide (x0={ { (⟨x0.kind,⟨[]⟩,0,⟨[]⟩,0⟩:Stmt) with name:=x0.name } with value:=x0.value })&&b3) == true) (yg x0.value 0 99)).bind λ b7=>
 some ((decide (x0={ { (⟨x0.kind,⟨[]⟩,0,⟨[]⟩,0⟩:Stmt) with name:=x0.name } with value:=x0.value })&&b3)&&b7))<|ite (ez .eql x0.kind 4) ((gO (decide (x0={ (⟨x0.kind,⟨[]⟩,0,⟨[]⟩,0⟩:Stmt) with name:=x0.name }) == true) (xl x0.name)).bind λ b8=>
 some (decide (x0={ (⟨x0.kind,⟨[]⟩,0,⟨[]⟩,0⟩:Stmt) with name:=x0.name })&&b8))<|ite (ez .eql x0.kind 5) (some (decide (x0=⟨x0.kind,⟨[]⟩,0,⟨[]⟩,0⟩)))<|some false
instance:gC prog 89 dt dt XQ:=⟨@λ x0 r h=>by
 refine fe 1 func89 λ M w0 _ j=>?_;refine j.z1 (λ j=>Ka ?_);refine j.zg 3 (λ j=>?_) (hs:=sZ 2 (r:=by exact sc Z (FE Z T)<|.nil));refine j.fB 0 nQ [1,6] [] λ b4 j=>?_;refine j.eW 3 0 eO.id (tp Z) [1] [] (λ j=>Kb ?_);refine j.zo [(3,0)] (λ j=>za ?_);refine T2<|j.kJ 1 [1,8] (λ o8=>[(9,dt o8)]) (λ _ q=>[(3,0,eY (q 0) 0 (⟨x0.kind,⟨[]⟩,0,⟨[]⟩,0⟩:Stmt))]) h (λ o8 p8=>?_) λ o8 q8 _ _ _ j h=>?_
 .refine j.zd [(3,0)] p8 (λ j h=>?_) λ j h=>?_
  .cases h
   exact fz
  refine j.zo [(3,0)] λ j=>?_;cases h;exact fz
 refine j.cq h (λ h=>?_) λ h=>?_
 .refine Ka ?_
  refine j.zh 3 [(3,0),(14,0)] λ j=>?_;refine j.eW 3 0 Stmt.D6 (tp Z) [1] [] (λ j=>Kb ?_);exact kB h λ d2 a8 h=>j.ze h (hs:=sZ 2 (r:=by exact sc Z (Qk Z T T)<|sZ 3 (r:=by exact sg Z Z (λ hg=>oK (ji.1 (gh hg a8)))<|eI)))
 refine j.zd [(3,0)] h (λ j h=>?_) λ j h=>?_
 .have⟨d3,a9,h⟩:=bs h
  exact Kx h λ d4 b3 d5 b5 h=>j.ze h (hs:=sZ 6 (r:=by exact sg Z Z (λ hg=>oK (yX.1 (gh hg a9)))<|sZ 4 (r:=by exact sg Z Z (λ hg=>oK (qm.1 (gh hg b3)))<|sZ 4 (r:=by exact sg Z Z (λ hg=>oK (ji.1 (gh hg b5)))<|sg Z Z (λ hg=>oM Z V)<|lG Z Z (λ hg=>zI Stmt.gA Z T)<|lG Z Z (λ hg=>zG Z V)<|lG Z Z (λ hg=>YY Z V (yM))<|lG Z Z (λ hg=>oM Z V)<|lG Z Z (λ hg=>zI Stmt.iv Z T)<|lG Z Z (λ hg=>zG Z V)<|lG Z Z (λ hg=>gU Z V cI)<|lG Z Z (λ hg=>xd Z V (rQ hg Z))<|sg Z Z (λ hg=>qe Z V (rQ hg Z))<|eI))))
 refine j.zd [(3,0)] h (λ j h=>?_) λ j h=>?_
 .refine j.AD (s:=1) λ b6 b7 b8 j=>?_
  refine j.held (λ w=>iu w b6 b7 b8) zP λ _ j=>?_;refine j.tA 0 1 (λ _ j=>?_) (ht:=tK);refine j.tF 1 1 55 Stmt.iM λ _ j=>?_;refine j.tA 2 1 (λ _ j=>?_) (ht:=FH);refine j.tF 3 1 57 Stmt.ls (λ _ j=>fp 4 ?_);refine j.zh 1 [(3,0),(59,0)] λ j=>?_;refine fC (j.fX 1) ?_;refine fp 5 ?_;refine j.eW 3 0 Stmt.sj (tp Z) [1,58] [] λ j=>?_;refine fC (j.fX 1) ?_;refine fp 6 ?_;refine j.zh 1 [(3,0),(60,0)] λ j=>?_;refine fC (j.fX 1) ?_;refine fp 7 ?_;refine j.eW 3 0 Stmt.sk (tp Z) [1] [] λ j=>?_;refine fC (j.fX 1) ?_;refine kG ?_;have j:=j.nU (s:=1);exact Kx h λ d6 b9 d7 c8 h=>j.ze h (hs:=sZ 2 (r:=by exact sc Z (Qk Z T T)<|sZ 3 (r:=by exact sg Z Z (λ hg=>oK (qm.1 (gh hg b9)))<|sZ 4 (r:=by exact sg Z Z (λ hg=>oK (yX.1 (gh hg c8)))<|eI))))
 refine j.zd [(3,0)] h (λ j h=>?_) λ j h=>?_
 .refine Ka ?_
  refine j.zh 3 [(3,0),(78,0)] λ j=>?_;refine j.eW 3 0 Stmt.sj (tp Z) [1] [] (λ j=>Kb ?_);exact kB h λ e0 d1 h=>j.ze h (hs:=sZ 2 (r:=by exact sc Z (Qk Z T T)<|sZ 3 (r:=by exact sg Z Z (λ hg=>oK (qm.1 (gh hg d1)))<|eI)))
 refine j.zd [(3,0)] h (λ j h=>?_) λ j h=>?_
 .exact j.ze h (hs:=sZ 2 (r:=by exact sc Z (Qk Z T T)<|eI))
 exact j.ze h⟩
theorem Pk:lL prog 43=true:=by kernel_rfl
theorem rj:gV prog 43 5=true:=by kernel_rfl
theorem sJ:fR prog 45 4 4=true:=by kernel_rfl
theorem uU:fR prog 45 5 5=true:=by kernel_rfl
theorem qI:fR prog 65 0 0=true:=by kernel_rfl
theorem BP:fM prog 63 false 1=true:=by kernel_rfl
theorem rk:gV prog 63 6=true:=by kernel_rfl
theorem uY:fM prog 45 true 6=true:=by kernel_rfl
theorem u4:zeroCells prog 45=some tD:=by kernel_rfl
theorem BS:zeroCells prog 137=some Iz:=by kernel_rfl
theorem uZ:mC prog 23=true:=by kernel_rfl
theorem mP:fM prog 137 true 3=true:=by kernel_rfl
theorem PR:uP prog 97=true:=by kernel_rfl
theorem uQ:iH prog 23 3 1 8=true:=by kernel_rfl
def ZK(x0:List Stmt)(s4:Int):Option (Int⊕(Unit⊕Bool)):=
 ite ((ez .lss s4 x0.length)=true) ((eN x0 s4).bind λ v9=>
(XQ v9).bind λ a8=>
 ite ((!a8)=true) (some (.inr (.inr false)))<|(i64 (s4+1)).bind λ a9=>
 some (.inl a9))<|some (.inr (.inl ()))
def xP(x0:List Stmt):Option Bool:=
 Option.bind (zE (λ s4=>ZK x0 s4) 0) (Sum.elim (λ b2=>
 some (ez .leq x0.length 8)) some)
instance Jd:gC prog 54 dt dt xP:=⟨@λ x0 r h=>by
 refine fe 1 func54 λ M w0 _ j=>?_;refine j.z1 (λ j=>za ?_);refine j.mH 1 [0] (λ _=>[]) (λ _ _=>[]) h (λ o2 p2 k2=>?_) λ b2 q2 _ _ _ j h=>?_
 .refine j.z1 λ j=>?_
  refine j.pa 1 [0,5,6] (λ s4=>[(7,dt s4)]) (λ _ _=>[]) p2 λ s4 x4 q4 _ _ _ j h hx4=>?_;refine j.zc h (λ j h=>?_) λ j h=>?_
  .refine Ka ?_
   refine kB h λ v9 p9 h=>j.zg 2 λ j=>?_;refine j.alloc 0 Z Z FY nQ (gl Z) [0,5,6,7,10] Z [] Z Z λ a8 _ _ _ j=>?_;refine j.store (sb:=4) 0 eO.id Z Z Z PM Z Z (tp Z) Z [0,5,6,7] Z [] Z Z (λ _ _ j=>Kb ?_);refine kB h λ a9 b3 h=>j.zc h (λ j h=>?_) λ j h=>?_
   .exact j.ze (jo (lo h hx4) k2)
   exact kB h λ b5 b6 h=>j.zn [] h
  exact fU (lo h hx4)
 exact j.ze h⟩
def jC(x0:File):Option Bool:=
(yg x0.root 0 2).bind λ v2=>
(gO ((!v2) == false) (xm x0.pkg)).bind λ v3=>
(gO (((!v2)||(!v3)) == false) (yg x0.stamp 0 99)).bind λ v4=>
(gO ((((!v2)||(!v3))||(!v4)) == false) (xP x0.body)).bind λ v5=>
 ite (((((!v2)||(!v3))||(!v4))||(!v5))=true) (some false)<|ite (x0.init=true) (some (decide (x0.pkg≠⟨[]⟩)&&decide (x0.name=⟨[]⟩)))<|(xl x0.name).bind λ a8=>
(gO (a8 == true) (wE x0.pkg x0.name)).bind λ a9=>
 some (a8&&decide (a9≠⟨[]⟩))
instance CC:gC prog 110 dt dt jC:=⟨@λ x0 r h=>by
 refine fe 0 func110 λ M _ _ j=>?_;refine j.z1 λ j=>?_;refine Kx h λ v2 p2 v3 p3 h=>Kx h λ v4 p4 v5 p5 h=>j.zc h (λ j h=>?_) (λ j h=>?_) (hs:=sZ 2 (r:=by exact sc Z (oK (yX.1 p2))<|sZ 4 (r:=by exact sg Z Z (λ hg=>oK (jk.1 (gh hg p3)))<|sZ 5 (r:=by exact sg Z Z (λ hg=>oK (yX.1 (gh hg p4)))<|sZ 5 (r:=by exact sg Z Z (λ hg=>oK (Jd.1 (gh hg p5)))<|eI)))))
 .exact j.ze h
 refine j.zc h (λ j h=>?_) λ j h=>?_
 .exact j.ze h
 exact Kx h λ b3 a8 b5 a9 h=>j.ze h (hs:=sZ 2 (r:=by exact sc Z (oK (qm.1 a8))<|sZ 5 (r:=by exact sg Z Z (λ hg=>oK (HK.1 (gh hg a9)))<|eI)))⟩
def ZL(b3:File)(a9:List File)(a8:Int):Option (Int⊕(Unit⊕(Int⊕(Unit⊕Bool)))):=
 ite ((ez .lss a8 a9.length)=true) ((eN a9 a8).bind λ b5=>
(ZW b3 b5).bind λ b6=>
 ite (b6=true) (some (.inr (.inr (.inr (.inr false)))))<|(i64 (a8+1)).bind λ b7=>
 some (.inl b7))<|some (.inr (.inl ()))
def ZM(x0:Tree)(s4:Int):Option (Int⊕(Unit⊕Bool)):=
 ite ((ez .lss s4 x0.files.length)=true) (Option.bind ((eN x0.files s4).bind λ a8=>
(jC a8).bind λ a9=>
 ite ((!a9)=true) (some (.inr (.inr (.inr false))))<|(W1 x0.files s4).bind λ b3=>
 zE (λ b5=>ZL a8 b3 b5) 0) (Sum.elim (λ b9=>
(i64 (s4+1)).bind λ b6=>
 some (.inl b6)) some))<|some (.inr (.inl ()))
def xn(x0:Tree):Option Bool:=
 Option.bind (zE (λ s4=>ZM x0 s4) 0) (Sum.elim (λ b2=>
 some (ez .leq x0.files.length 12)) some)
instance jl:gC prog 170 dt dt xn:=⟨@λ x0 r h=>by
 refine fe 2 func170 λ M w0 _ j=>?_;refine j.z1 (λ j=>za ?_);refine j.mH 2 [1] (λ _=>[]) (λ _ _=>[]) h (λ o2 p2 k2=>?_) λ b2 q2 _ _ _ j h=>?_
 .refine j.z1 λ j=>?_
  refine j.pa 2 [1,8,9] (λ s4=>[(10,dt s4)]) (λ _ _=>[]) p2 λ s4 x4 q4 _ _ _ j h hx4=>?_;refine j.zc h (λ j h=>?_) λ j h=>?_
  .refine kQ ?_
   refine za<|j.mH 2 [1,8,9,10] (λ _=>[]) (λ _ _=>[]) h (λ o9 p9 k9=>?_) λ b9 q9 _ _ _ j h=>?_
   .refine Ka ?_
    have⟨b3,b5,h⟩:=bs p9;refine j.zg 3 λ j=>?_;refine j.alloc 0 Z Z u4 JU (gl Z) [1,8,9,10,12,14] Z [] Z Z λ b6 _ _ _ j=>?_;refine j.zh 1 [(4,0)] λ j=>?_;refine j.store (sb:=4) 0 eO.id Z Z Z uY Z Z (tp Z) Z [1,3,8,9,10] Z [] Z Z (λ _ _ j=>Kb ?_);refine kB h λ b7 b8 h=>j.zd [(4,0)] h (λ j h=>?_) λ j h=>?_
    .exact j.ze (jo (lo (jo h k9) hx4) k2)
    refine kB h λ c8 d1 h=>j.zo [(4,0)] λ j=>?_;refine j.pa 2 [1,8,9,10,21,22] (λ a9=>[(23,dt a9)]) (λ _ q=>[(4,0,eY (q 0) 0 b3)]) h λ a9 d2 d3 _ _ _ j h a8=>?_;refine j.zd [(4,0)] h (λ j h=>?_) λ j h=>?_
    .refine Ka ?_
     refine kB h λ d4 d5 h=>j.zh 2 [(4,0)] λ j=>?_;refine j.alloc 1 Z Z u4 JU (gl Z) [1,8,9,10,21,22,23,26] Z [4] Z Z λ d6 _ _ _ j=>?_;refine j.store (sb:=6) 1 eO.id Z Z Z uY Z Z (tp Z) Z [1,8,9,10,21,22,23] Z [4] Z Z (λ _ _ j=>Kb ?_);refine kB h λ d7 e0 h=>j.zd [(4,0)] h (λ j h=>?_) λ j h=>?_
     .exact j.ze (jo (lo (jo (lo h a8) k9) hx4) k2)
     exact kB h λ e3 e4 h=>j.zn [(4,0)] h
    exact fU (lo h a8)
   exact kB h λ e5 e6 h=>j.zn [] h
  exact fU (lo h hx4)
 exact j.ze h⟩
def qX(x0:File):Option Str:=
(jC x0).bind λ v2=>
 ite ((!v2)=true) (some ⟨[]⟩)<|ite (x0.init=true) (some x0.pkg)<|(wE x0.pkg x0.name).bind λ a8=>
 some a8
instance JX:gC prog 119 dt dt qX:=⟨@λ x0 r h=>by
 refine fe 0 func119 λ M _ _ j=>?_;refine j.z1 λ j=>?_;refine kB h λ v2 p2 h=>j.zc h (λ j h=>?_) λ j h=>?_
 .exact j.ze h
 refine j.zc h (λ j h=>?_) λ j h=>?_
 .exact j.ze h
 exact kB h λ a8 a9 h=>j.ze h⟩
def Xx(x0:Tree)(x1:Int)(x2:Str)(s4:Int):Option (Int⊕(Unit⊕Bool)):=
 ite ((ez .lss s4 x0.files.length)=true) ((eN x0.files s4).bind λ v9=>
(gO (ez .eql v9.root x1 == true) (Z1 v9.pkg x2)).bind λ a8=>
 ite ((ez .eql v9.root x1&&a8)=true) (some (.inr (.inr true)))<|(i64 (s4+1)).bind λ a9=>
 some (.inl a9))<|some (.inr (.inl ()))
def XR(x0:Tree)(x1:Int)(x2:Str):Option Bool:=
 Option.bind (zE (λ s4=>Xx x0 x1 x2 s4) 0) (Sum.elim (λ b2=>
 some (decide (x2=⟨[]⟩))) some)
instance Il:ky prog 176 dt dt dt dt XR:=⟨@λ x0 x1 x2 r h=>by
 refine fe 1 func176 λ M w0 _ j=>?_;refine j.z1 (λ j=>za ?_);refine j.mH 1 [2] (λ _=>[]) (λ _ _=>[]) h (λ o2 p2 k2=>?_) λ b2 q2 _ _ _ j h=>?_
 .refine j.z1 λ j=>?_
  refine j.pa 1 [1,2,10,11] (λ s4=>[(12,dt s4)]) (λ _ _=>[]) p2 λ s4 x4 q4 _ _ _ j h hx4=>?_;refine j.zc h (λ j h=>?_) λ j h=>?_
  .refine Ka ?_
   refine kB h λ v9 p9 h=>j.zg 2 λ j=>?_;refine j.alloc 0 Z Z u4 JU (gl Z) [1,2,10,11,12,15] Z [] Z Z λ a9 _ _ _ j=>?_;refine j.store (sb:=8) 0 eO.id Z Z Z uY Z Z (tp Z) Z [1,2,10,11,12] Z [] Z Z (λ _ _ j=>Kb ?_);refine kB h λ b3 a8 h=>j.zc h (λ j h=>?_) (λ j h=>?_) (hs:=sc Z (jH File.gD Z (ht:=rS) T)<|sc Z (yV Z T)<|sZ 3 (r:=by exact sg Z Z (λ hg=>jH File.gA Z T)<|sg Z Z (λ hg=>yV Z V)<|sZ 1 (r:=by exact sg Z Z (λ hg=>oK (HL.1 (gh hg a8)))<|eI)))
   .exact j.ze (jo (lo h hx4) k2)
   exact kB h λ b5 b6 h=>j.zn [] h
  exact fU (lo h hx4)
 exact j.ze h⟩
def Xg:Option Spec:=
 some (⟨0,(-1),[]⟩:Spec)
instance:uw prog 137  dt Xg:=⟨@λ r h=>by
 refine fe 1 func137 λ M _ _ j=>?_;refine Ka<|j.alloc 0 Z Z BS nd (gl Z) [] Z [] Z Z (λ b1 _ _ _ j=>Kb ?_);refine Ka<|j.zh 2 [(0,0)] (λ j=>?_) (hs:=sc Z (wa (opds:=[]) (α:=Int) Z Z Z .nil)<|sc Z (yf (parts:=[(0,.const (.int .i64 0)),(1,.const (.int .i64 (-1))),(2,.tmp 1)]) (ns:=[1,1,1]) (zs:=KW) Z Z (λ w a hl=>FA ⟨by decide,Z⟩ (FA ⟨by decide,Z⟩ (FA ⟨by decide,ey.len (α:=List Int) (eC.cells T hl)⟩ FN))) (λ w a hl=>Spec.parts (x:=(⟨(0:Int),(-1:Int),([]:List Int)⟩:Spec)) (eC.cells cI hl) (eC.cells cI hl) (eC.cells T hl)))<|.nil);refine j.store (sb:=0) 0 eO.id Z Z Z mP Z Z (tp Z) Z [] Z [] Z Z (λ _ _ j=>Kb ?_);exact j.ret_box Z mP Z h⟩
def ZN(x0:List Int)(s4:Int):Option (Int⊕(Unit⊕Bool)):=
 ite ((ez .lss s4 x0.length)=true) ((eN x0 s4).bind λ v9=>
(yg v9 0 2).bind λ a8=>
(gO ((!a8) == false) (W1 x0 s4)).bind λ a9=>
(gO ((!a8) == false) (xS a9 v9)).bind λ b3=>
 ite (((!a8)||b3)=true) (some (.inr (.inr false)))<|(i64 (s4+1)).bind λ b5=>
 some (.inl b5))<|some (.inr (.inl ()))
def Z4(x0:List Int):Option Bool:=
 Option.bind (zE (λ s4=>ZN x0 s4) 0) (Sum.elim (λ b2=>
 some true) some)
instance HG:gC prog 37 dt dt Z4:=⟨@λ x0 r h=>by
 refine fe 0 func37 λ M w0 _ j=>?_;refine j.z1 (λ j=>za ?_);refine j.jb [] (λ _=>[]) h (λ o2 p2 k2=>?_) λ b2 _ _ j h=>?_
 .refine j.z1 λ j=>?_
  refine j.lp [0,5,6] (λ s4=>[(7,dt s4)]) p2 λ s4 x4 _ _ j h hx4=>?_;refine j.zc h (λ j h=>?_) λ j h=>?_
  .have⟨v9,p9,h⟩:=bs h
   refine j.z1 λ j=>?_;refine Kx h λ b5 a8 b6 a9 h=>kB h λ b7 b3 h=>j.zc h (λ j h=>?_) (λ j h=>?_) (hs:=sZ 1 (r:=by exact sc Z (oK (yX.1 a8))<|sZ 4 (r:=by exact sg Z Z (λ hg=>oG Z V V (gh hg a9))<|sZ 1 (r:=by exact sg Z Z (λ hg=>oK (XJ.1 (gh hg b3)))<|eI))))
   .exact j.ze (jo (lo h hx4) k2)
   exact kB h λ b8 b9 h=>j.zn [] h
  exact fU (lo h hx4)
 exact j.ze h⟩
def Xy(x0:Tree)(x1:File)(s4:Int):Option (Int⊕(Unit⊕Int)):=
 ite ((ez .lss s4 x0.files.length)=true) ((eN x0.files s4).bind λ v9=>
(ZW x1 v9).bind λ a8=>
 ite (a8=true) (some (.inr (.inr s4)))<|(i64 (s4+1)).bind λ a9=>
 some (.inl a9))<|some (.inr (.inl ()))
def YO(x0:Tree)(x1:File):Option Int:=
 Option.bind (zE (λ s4=>Xy x0 x1 s4) 0) (Sum.elim (λ b2=>
 some (-1)) some)
instance CD:fY prog 175 dt dt dt YO:=⟨@λ x0 x1 r h=>by
 refine fe 1 func175 λ M w0 _ j=>?_;refine j.z1 (λ j=>za ?_);refine j.mH 1 [] (λ _=>[]) (λ _ _=>[]) h (λ o2 p2 k2=>?_) λ b2 q2 _ _ _ j h=>?_
 .refine j.z1 λ j=>?_
  refine j.pa 1 [3,8,9] (λ s4=>[(10,dt s4)]) (λ _ _=>[]) p2 λ s4 x4 q4 _ _ _ j h hx4=>?_;refine j.zc h (λ j h=>?_) λ j h=>?_
  .refine Ka ?_
   refine kB h λ v9 p9 h=>j.zg 3 λ j=>?_;refine j.alloc 0 Z Z u4 JU (gl Z) [3,8,9,10,12,14] Z [] Z Z λ a8 _ _ _ j=>?_;refine j.zh 1 [(6,0)] λ j=>?_;refine j.store (sb:=6) 0 eO.id Z Z Z uY Z Z (tp Z) Z [3,5,8,9,10] Z [] Z Z (λ _ _ j=>Kb ?_);refine kB h λ a9 b3 h=>j.zc h (λ j h=>?_) λ j h=>?_
   .exact j.ze (jo (lo h hx4) k2)
   exact kB h λ b5 b6 h=>j.zn [] h
  exact fU (lo h hx4)
 exact j.ze h⟩
theorem Px:gb prog 195=true:=by kernel_rfl
theorem Py:gb prog 196=true:=by kernel_rfl
def Jt(x0:List Str):Option (List Str):=
(wA x0).bind λ v4=>
(xO v4).bind λ v8=>
(fE 16 [] v8).bind λ a8=>
 some a8
theorem On{x0:List Str}{r:List Str}(h:Jt x0=some r):pL prog 161 9 x0 [] r:=by
 refine N5 (fn:=f161) 1 2 func161 Z (oD Z) Z (λ M g _ _ j=>gj ?_);refine j.zo [(0,1)] (λ j=>?_) (hs:=sc Z (oA Z (jg (α:=Str) (e:=9)))<|.nil);refine Ka<|j.zh 1 [(0,1),(3,1)] λ j=>?_;refine kB h λ v4 p4 h=>j.Lr (sb:=0) 1 Z Z Px Z Z Z (J9 p4) [] Z [] Z Z ⟨Z,Z,by decide⟩ (λ _ _ _ j=>Kb ?_);refine Ka<|j.zh 2 [(5,0),(6,1)] (λ j=>?_) (hs:=sc Z (xj (α:=Str) (e:=9) Z (ht':=W3))<|eI);refine kB h λ v8 p8 h=>j.take (l:=[]) 1 Z Z Py Z Z .nil (Jb p8) [] Z [5] Z Z λ g7 _ _ _ j=>?_;refine kB h λ a9 a8 h=>j.app 0 Z Z Bw Z Z Z GS a8 [] Z [] Z Z λ b3 _ _ _ j=>?_;refine j.zh 1 [(2,0)] (λ j=>Kb ?_);exact j.ret_take 0 Z Z (λ _ h=>h) h
def ws(x0:Str)(v4:List Str)(s7:(List Str)×Int):Option (((List Str)×Int)⊕(List Str)):=
 ite ((ez .lss s7.2 v4.length)=true) ((Z0 x0).bind λ a8=>
(i64 (s7.2+1)).bind λ a9=>
(W1 a8 a9).bind λ b3=>
(ZV b3 ⟨[46]⟩).bind λ b5=>
(fE 16 s7.1 [b5]).bind λ b6=>
(i64 (s7.2+1)).bind λ b7=>
 some (.inl (b6,b7)))<|some (.inr s7.1)
def jP(x0:Str):Option (List Str):=
 Option.bind ((Z0 x0).bind λ v4=>
 zE (λ s7=>ws x0 v4 s7) ([],0)) λ o3=>
 some o3
theorem Uq{x0 r}(h:jP x0=some r):kY prog 198 [dt x0] 9 r:=by
 refine om 1 func198 λ M w0 _ j=>?_;refine j.z1 (λ j=>?_) (hs:=sc Z (oA Z (jg (α:=Str) (e:=9)))<|.nil);refine j.zo [(3,0)] (λ j=>?_) (hs:=sc Z (xj (α:=Str) (e:=9) Z (ht':=W3))<|eI);refine za<|j.kJ 1 [] (λ _=>[]) (λ o3 q=>[(3,0,eQ (q 0) 9 o3)]) h (λ o3 p3=>?_) λ o3 q3 _ _ _ j h=>?_
 .obtain⟨v4,p4,h⟩:=mh p3 QA.1
  refine j.zo [(3,0)] λ j=>?_;refine j.pa 1 [0,8] (λ s7=>[(9,dt s7.2)]) (λ s7 q=>[(3,0,eQ (q 0) 9 s7.1)]) h λ s7 x7 q7 _ _ _ j h hx7=>?_;refine j.zd [(3,0)] h (λ j h=>?_) λ j h=>?_
  .refine j.zo [(3,0)] (λ j=>Ka ?_)
   refine Kx h λ b6 a8 b7 b8 h=>Kx h λ b9 a9 c8 b3 h=>j.zh 8 [(3,0),(12,0)] (λ j=>?_) (hs:=sZ 2 (r:=by exact sc Z (oK (QA.1 a8))<|sZ 2 (r:=by exact sc Z (oG Z (ht:=W3) T T a9)<|sc Z (oK (HJ b3))<|sc Z (wa (opds:=[.tmp 18]) Z (ht':=W3) Z Z (.cons T .nil))<|.nil)));refine kB h λ d1 b5 h=>j.app 0 Z Z Bw Z Z Z yW b5 [0,8,9] Z [] Z Z λ d2 _ _ _ j=>?_;refine j.zh 1 [(3,0)] (λ j=>Kb ?_);exact kB h λ d3 d4 h=>j.zn [(3,0)] h
  cases lo h hx7;exact fz
 exact j.zl 0 h
