import Derived.Test.YtoomehfflopakaaGreatDoorTO
import Derived.Test.YtoomehfflopakaaGreatDoorTF
namespace Go.Proofs.YtoomehfflopakaaGreatDoor
open Go.RowKit Tryz
attribute [local irreducible] OpRel OpdR
set_option maxRecDepth 10000
set_option maxHeartbeats 1600000
variable{r:Bool}{x1:File}{x2:Str}{x0:Tree}
theorem kD109_0:∀ {M:Nat->Prop} {look:Nat->Option Dt} {o:Oper} {q0:Operand} {y0:Int},o.op=.build 109 #[(0,q0)]->OpdR M look q0 (dt y0)->OpRel prog M look o (dt (⟨y0,⟨[]⟩,0,⟨[]⟩,0⟩:Stmt)):=@λ _ _ _ q0 y0 ho h0=>yf (parts:=[(0,q0)]) (ns:=[1,1,1,1,1]) (zs:=zpStmt) Z ho (λ w a hl=>FA ⟨(by decide:0<5),Rep.len (α:=Int) (OpdR.cells h0 hl)⟩ FN) (λ w a hl=>Stmt.parts (x:=(⟨y0,⟨[]⟩,0,⟨[]⟩,0⟩:Stmt)) (OpdR.cells h0 hl) J2 ⟨Z,trivial⟩ J2 ⟨Z,trivial⟩)
theorem kZ109:zeroCells prog 109=some zcStmt:=by kernel_rfl
theorem kT109:tyB prog 109 true 5=true:=by kernel_rfl
theorem kF109_4:fldB prog 109 4 4=true:=by kernel_rfl
theorem kF109_3:fldB prog 109 3 3=true:=by kernel_rfl
def Xt(x0:Stmt):Option Bool:=
Option.bind (α:=Bool) (if cmpI .eql x0.kind 0 then(some (cmpI .eql x0.kind 0))
else(some (cmpI .eql x0.kind 2))) λ o8=>
if o8=true then((gO (decide (x0={ (⟨x0.kind,⟨[]⟩,0,⟨[]⟩,0⟩:Stmt) with module:=x0.module }) == true) (ym x0.module)).bind λ b5=>
some (decide (x0={ (⟨x0.kind,⟨[]⟩,0,⟨[]⟩,0⟩:Stmt) with module:=x0.module })&&b5))
else(if cmpI .eql x0.kind 1 then((gO (cmpI .eql x0.value 0 == true) (yg x0.level (0:Int) (3:Int))).bind λ a8=>
(gO ((cmpI .eql x0.value 0&&a8) == true) (xh x0.name)).bind λ a9=>
(gO (((cmpI .eql x0.value 0&&a8)&&a9) == true) (ym x0.module)).bind λ b6=>
some (((cmpI .eql x0.value 0&&a8)&&a9)&&(b6||(decide (x0.module=(⟨[]⟩:Str))&&cmpI .geq x0.level 1))))
else(if cmpI .eql x0.kind 3 then((gO (decide (x0={ { (⟨x0.kind,⟨[]⟩,0,⟨[]⟩,0⟩:Stmt) with name:=x0.name } with value:=x0.value }) == true) (xh x0.name)).bind λ b3=>
(gO ((decide (x0={ { (⟨x0.kind,⟨[]⟩,0,⟨[]⟩,0⟩:Stmt) with name:=x0.name } with value:=x0.value })&&b3) == true) (yg x0.value (0:Int) (99:Int))).bind λ b7=>
some ((decide (x0={ { (⟨x0.kind,⟨[]⟩,0,⟨[]⟩,0⟩:Stmt) with name:=x0.name } with value:=x0.value })&&b3)&&b7))
else(if cmpI .eql x0.kind 4 then((gO (decide (x0={ (⟨x0.kind,⟨[]⟩,0,⟨[]⟩,0⟩:Stmt) with name:=x0.name }) == true) (xh x0.name)).bind λ b8=>
some (decide (x0={ (⟨x0.kind,⟨[]⟩,0,⟨[]⟩,0⟩:Stmt) with name:=x0.name })&&b8))
else(if cmpI .eql x0.kind 5 then(some (decide (x0=(⟨x0.kind,⟨[]⟩,0,⟨[]⟩,0⟩:Stmt))))
else(some false)))))
theorem impl_stmtOk_w{x0}(h:Xt x0=some r):Fn prog 89 [dt x0] (dt r):=by
 refine fq1 1 func89 λ M w0 _ j=>?_
 refine j.z1 (λ j=>QY ?_)
 refine j.zg 3 (λ j=>?_) (hs:=sZ 2 (r:=by exact sc Z (kD109_0 Z T)<|.nil))
 refine j.alA 0 zas [1,6] [] λ b4 j=>?_
 refine j.stA 3 0 FldS.id (tp Z) [1] [] (λ j=>Wz ?_)
 refine j.zo [(3,0)] (λ j=>za ?_)
 refine wqb<|j.jmq 1 [1,8] (λ o8=>[(9,dt o8)]) (λ _ q=>[(3,0,dbox (q 0) 0 (⟨x0.kind,⟨[]⟩,0,⟨[]⟩,0⟩:Stmt))]) h (λ o8 p8=>?_) λ o8 q8 _ _ _ j h=>?_
 ·refine j.zd [(3,0)] p8 (λ j h=>?_) λ j h=>?_
  ·cases h
   exact fz
  refine j.zo [(3,0)] λ j=>?_
  cases h
  exact fz
 refine j.cq h (λ h=>?_) λ h=>?_
 ·refine QY<|j.zh 3 [(3,0),(14,0)] λ j=>?_
  refine j.stA 3 0 Stmt.set1 (tp Z) [1] [] (λ j=>Wz ?_)
  have⟨d2,a8,h⟩:=bs h
  exact j.ze h (hs:=sZ 2 (r:=by exact sc Z (JS Z T T)<|sZ 3 (r:=by exact sg Z Z (λ hg=>oK (wV (gh hg a8)))<|segZ)))
 refine j.zd [(3,0)] h (λ j h=>?_) λ j h=>?_
 ·have⟨d3,a9,h⟩:=bs h
  have⟨d4,b3,d5,b5,h⟩:=Ke h
  exact j.ze h (hs:=sZ 6 (r:=by exact sg Z Z (λ hg=>oK (yQ (gh hg a9)))<|sZ 4 (r:=by exact sg Z Z (λ hg=>oK (jW (gh hg b3)))<|sZ 4 (r:=by exact sg Z Z (λ hg=>oK (wV (gh hg b5)))<|sg Z Z (λ hg=>oM Z V)<|sgg Z Z (λ hg=>zI Stmt.fld1 Z T)<|sgg Z Z (λ hg=>zH Z V)<|sgg Z Z (λ hg=>YD Z V (yS))<|sgg Z Z (λ hg=>oM Z V)<|sgg Z Z (λ hg=>zI Stmt.fld2 Z T)<|sgg Z Z (λ hg=>zH Z V)<|sgg Z Z (λ hg=>oCI Z V cI)<|sgg Z Z (λ hg=>xc Z V (zd5 hg Z))<|sg Z Z (λ hg=>qm Z V (zd5 hg Z))<|segZ))))
 refine j.zd [(3,0)] h (λ j h=>?_) λ j h=>?_
 ·refine j.opn (s:=1) λ b6 b7 b8 j=>?_
  refine j.held (λ w=>CellsAt w b6 b7 b8) zN λ _ j=>?_
  refine j.tA 0 1 (λ _ j=>?_) (ht:=kF109_3)
  refine j.tF 1 1 55 Stmt.fld3 λ _ j=>?_
  refine j.tA 2 1 (λ _ j=>?_) (ht:=kF109_4)
  refine j.tF 3 1 57 Stmt.fld4 (λ _ j=>aK1 4 ?_)
  refine j.zh 1 [(3,0),(59,0)] λ j=>?_
  refine aHN (j.pkZ 1) ?_
  refine aK1 5 ?_
  refine j.stA 3 0 Stmt.set3 (tp Z) [1,58] [] λ j=>?_
  refine aHN (j.pkZ 1) ?_
  refine aK1 6 ?_
  refine j.zh 1 [(3,0),(60,0)] λ j=>?_
  refine aHN (j.pkZ 1) ?_
  refine aK1 7 ?_
  refine j.stA 3 0 Stmt.set4 (tp Z) [1] [] λ j=>?_
  refine aHN (j.pkZ 1) ?_
  have j:=j.clo (s:=1)
  have⟨d6,b9,d7,c8,h⟩:=Ke h
  exact aK0<|j.ze h (hs:=sZ 2 (r:=by exact sc Z (JS Z T T)<|sZ 3 (r:=by exact sg Z Z (λ hg=>oK (jW (gh hg b9)))<|sZ 4 (r:=by exact sg Z Z (λ hg=>oK (yQ (gh hg c8)))<|segZ))))
 refine j.zd [(3,0)] h (λ j h=>?_) λ j h=>?_
 ·refine QY<|j.zh 3 [(3,0),(78,0)] λ j=>?_
  refine j.stA 3 0 Stmt.set3 (tp Z) [1] [] (λ j=>Wz ?_)
  have⟨e0,d1,h⟩:=bs h
  exact j.ze h (hs:=sZ 2 (r:=by exact sc Z (JS Z T T)<|sZ 3 (r:=by exact sg Z Z (λ hg=>oK (jW (gh hg d1)))<|segZ)))
 refine j.zd [(3,0)] h (λ j h=>?_) λ j h=>?_
 ·exact j.ze h (hs:=sZ 2 (r:=by exact sc Z (JS Z T T)<|segZ))
 exact j.ze h
instance:Ct1 prog 89 dt dt Xt:=⟨λ h=>impl_stmtOk_w h⟩
theorem kS43:slB prog 43 5=true:=by kernel_rfl
theorem kF45_4:fldB prog 45 4 4=true:=by kernel_rfl
theorem kF45_5:fldB prog 45 5 5=true:=by kernel_rfl
theorem qr:fldB prog 65 0 0=true:=by kernel_rfl
theorem kT63:tyB prog 63 false 1=true:=by kernel_rfl
theorem kS63:slB prog 63 6=true:=by kernel_rfl
theorem kT45:tyB prog 45 true 6=true:=by kernel_rfl
theorem kZ45:zeroCells prog 45=some zcFile:=by kernel_rfl
theorem kZ137:zeroCells prog 137=some zcSpec:=by kernel_rfl
theorem kY23:zlB prog 23=true:=by kernel_rfl
theorem zbg:tyB prog 137 true 3=true:=by kernel_rfl
theorem kU97:isFn prog 97=true:=by kernel_rfl
theorem kE23:elB prog 23 3 1 8=true:=by kernel_rfl
def Zs(x0:List Stmt)(s4:Int):Option (Int⊕(Unit⊕Bool)):=
if(cmpI .lss s4 (x0.length:Int))=true then((atI x0 s4).bind λ v9=>
(Xt v9).bind λ a8=>
if(!a8)=true then(some (.inr (.inr false)))
else((i64 (s4+(1:Int))).bind λ a9=>
some (.inl a9)))
else(some (.inr (.inl ())))
def xK(x0:List Stmt):Option Bool:=
Option.bind (α:=Unit⊕Bool) (zE (λ s4=>Zs x0 s4) (0:Int)) (Sum.elim (λ _b2=>
some (cmpI .leq (x0.length:Int) 8)) some)
theorem WM{x0}(h:xK x0=some r):Fn prog 54 [dt x0] (dt r):=by
 refine fq1 1 func54 λ M w0 _ j=>?_
 refine j.z1 (λ j=>za ?_)
 refine j.jbq 1 [0] (λ _=>[]) (λ _ _=>[]) h (λ o2 p2 k2=>?_) λ b2 q2 _ _ _ j h=>?_
 ·refine j.z1 λ j=>?_
  refine j.lpq 1 [0,5,6] (λ s4=>[(7,dt s4)]) (λ _ _=>[]) p2 λ s4 x4 q4 _ _ _ j h hx4=>?_
  refine j.zc h (λ j h=>?_) λ j h=>?_
  ·have⟨v9,p9,h⟩:=bs h
   refine QY<|j.zg 2 λ j=>?_
   refine j.alloc 0 Z Z kZ109 zas (gl Z) [0,5,6,7,10] Z [] Z Z λ a8 _ _ _ j=>?_
   refine j.store (sb:=4) 0 FldS.id Z Z Z kT109 Z Z (tp Z) Z [0,5,6,7] Z [] Z Z (λ _ _ j=>Wz ?_)
   have⟨a9,b3,h⟩:=bs h
   refine j.zc h (λ j h=>?_) λ j h=>?_
   ·exact j.ze (jo (lo h hx4) k2)
   have⟨b5,b6,h⟩:=bs h
   exact j.zn [] h
  have h:=lo h hx4
  exact flz h
 exact j.ze h
instance:Ct1 prog 54 dt dt xK:=⟨λ h=>WM h⟩
def jh(x0:File):Option Bool:=
(yg x0.root (0:Int) (2:Int)).bind λ v2=>
(gO ((!v2) == false) (xi x0.pkg)).bind λ v3=>
(gO (((!v2)||(!v3)) == false) (yg x0.stamp (0:Int) (99:Int))).bind λ v4=>
(gO ((((!v2)||(!v3))||(!v4)) == false) (xK x0.body)).bind λ v5=>
if((((!v2)||(!v3))||(!v4))||(!v5))=true then(some false)
else(if x0.init=true then(some (decide (x0.pkg≠(⟨[]⟩:Str))&&decide (x0.name=(⟨[]⟩:Str))))
else((xh x0.name).bind λ a8=>
(gO (a8 == true) (ww x0.pkg x0.name)).bind λ a9=>
some (a8&&decide (a9≠(⟨[]⟩:Str)))))
theorem QN{x0}(h:jh x0=some r):Fn prog 110 [dt x0] (dt r):=by
 refine fq1 0 func110 λ M _ _ j=>?_
 refine j.z1 λ j=>?_
 have⟨v2,p2,v3,p3,h⟩:=Ke h
 have⟨v4,p4,v5,p5,h⟩:=Ke h
 refine j.zc h (λ j h=>?_) (λ j h=>?_) (hs:=sZ 2 (r:=by exact sc Z (oK (yQ p2))<|sZ 4 (r:=by exact sg Z Z (λ hg=>oK (wW (gh hg p3)))<|sZ 5 (r:=by exact sg Z Z (λ hg=>oK (yQ (gh hg p4)))<|sZ 5 (r:=by exact sg Z Z (λ hg=>oK (WM (gh hg p5)))<|segZ)))))
 ·exact j.ze h
 refine j.zc h (λ j h=>?_) λ j h=>?_
 ·exact j.ze h
 have⟨b3,a8,b5,a9,h⟩:=Ke h
 exact j.ze h (hs:=sZ 2 (r:=by exact sc Z (oK (jW a8))<|sZ 5 (r:=by exact sg Z Z (λ hg=>oK (za7 (gh hg a9)))<|segZ)))
instance:Ct1 prog 110 dt dt jh:=⟨λ h=>QN h⟩
def Zt(b3:File)(a9:List File)(a8:Int):Option (Int⊕(Unit⊕(Int⊕(Unit⊕Bool)))):=
if(cmpI .lss a8 (a9.length:Int))=true then((atI a9 a8).bind λ b5=>
(ZE b3 b5).bind λ b6=>
if b6=true then(some (.inr (.inr (.inr (.inr false)))))
else((i64 (a8+(1:Int))).bind λ b7=>
some (.inl b7)))
else(some (.inr (.inl ())))
def Zu(x0:Tree)(s4:Int):Option (Int⊕(Unit⊕Bool)):=
if(cmpI .lss s4 (x0.files.length:Int))=true then(Option.bind (α:=Unit⊕(Int⊕(Unit⊕Bool))) ((atI x0.files s4).bind λ a8=>
(jh a8).bind λ a9=>
if(!a9)=true then(some (.inr (.inr (.inr false))))
else((WB x0.files s4).bind λ b3=>
zE (λ b5=>Zt a8 b3 b5) (0:Int))) (Sum.elim (λ _b9=>
(i64 (s4+(1:Int))).bind λ b6=>
some (.inl b6)) some))
else(some (.inr (.inl ())))
def xj(x0:Tree):Option Bool:=
Option.bind (α:=Unit⊕Bool) (zE (λ s4=>Zu x0 s4) (0:Int)) (Sum.elim (λ _b2=>
some (cmpI .leq (x0.files.length:Int) 12)) some)
theorem wX(h:xj x0=some r):Fn prog 170 [dt x0] (dt r):=by
 refine fq1 2 func170 λ M w0 _ j=>?_
 refine j.z1 (λ j=>za ?_)
 refine j.jbq 2 [1] (λ _=>[]) (λ _ _=>[]) h (λ o2 p2 k2=>?_) λ b2 q2 _ _ _ j h=>?_
 ·refine j.z1 λ j=>?_
  refine j.lpq 2 [1,8,9] (λ s4=>[(10,dt s4)]) (λ _ _=>[]) p2 λ s4 x4 q4 _ _ _ j h hx4=>?_
  refine j.zc h (λ j h=>?_) λ j h=>?_
  ·refine wqk<|za<|j.jbq 2 [1,8,9,10] (λ _=>[]) (λ _ _=>[]) h (λ o9 p9 k9=>?_) λ b9 q9 _ _ _ j h=>?_
   ·have⟨b3,b5,h⟩:=bs p9
    refine QY<|j.zg 3 λ j=>?_
    refine j.alloc 0 Z Z kZ45 Js (gl Z) [1,8,9,10,12,14] Z [] Z Z λ b6 _ _ _ j=>?_
    refine j.zh 1 [(4,0)] λ j=>?_
    refine j.store (sb:=4) 0 FldS.id Z Z Z kT45 Z Z (tp Z) Z [1,3,8,9,10] Z [] Z Z (λ _ _ j=>Wz ?_)
    have⟨b7,b8,h⟩:=bs h
    refine j.zd [(4,0)] h (λ j h=>?_) λ j h=>?_
    ·exact j.ze (jo (lo (jo h k9) hx4) k2)
    have⟨c8,d1,h⟩:=bs h
    refine j.zo [(4,0)] λ j=>?_
    refine j.lpq 2 [1,8,9,10,21,22] (λ a9=>[(23,dt a9)]) (λ _ q=>[(4,0,dbox (q 0) 0 b3)]) h λ a9 d2 d3 _ _ _ j h a8=>?_
    refine j.zd [(4,0)] h (λ j h=>?_) λ j h=>?_
    ·have⟨d4,d5,h⟩:=bs h
     refine QY<|j.zh 2 [(4,0)] λ j=>?_
     refine j.alloc 1 Z Z kZ45 Js (gl Z) [1,8,9,10,21,22,23,26] Z [4] Z Z λ d6 _ _ _ j=>?_
     refine j.store (sb:=6) 1 FldS.id Z Z Z kT45 Z Z (tp Z) Z [1,8,9,10,21,22,23] Z [4] Z Z (λ _ _ j=>Wz ?_)
     have⟨d7,e0,h⟩:=bs h
     refine j.zd [(4,0)] h (λ j h=>?_) λ j h=>?_
     ·exact j.ze (jo (lo (jo (lo h a8) k9) hx4) k2)
     have⟨e3,e4,h⟩:=bs h
     exact j.zn [(4,0)] h
    have h:=lo h a8
    exact flz h
   have⟨e5,e6,h⟩:=bs h
   exact j.zn [] h
  have h:=lo h hx4
  exact flz h
 exact j.ze h
instance:Ct1 prog 170 dt dt xj:=⟨λ h=>wX h⟩
def qI(x0:File):Option Str:=
(jh x0).bind λ v2=>
if(!v2)=true then(some (⟨[]⟩:Str))
else(if x0.init=true then(some x0.pkg)
else((ww x0.pkg x0.name).bind λ a8=>
some a8))
theorem Jv{x0 r}(h:qI x0=some r):Fn prog 119 [dt x0] (dt r):=by
 refine fq1 0 func119 λ M _ _ j=>?_
 refine j.z1 λ j=>?_
 have⟨v2,p2,h⟩:=bs h
 refine j.zc h (λ j h=>?_) λ j h=>?_
 ·exact j.ze h
 refine j.zc h (λ j h=>?_) λ j h=>?_
 ·exact j.ze h
 have⟨a8,a9,h⟩:=bs h
 exact j.ze h
instance:Ct1 prog 119 dt dt qI:=⟨λ h=>Jv h⟩
def Xb(x0:Tree)(x1:Int)(x2:Str)(s4:Int):Option (Int⊕(Unit⊕Bool)):=
if(cmpI .lss s4 (x0.files.length:Int))=true then((atI x0.files s4).bind λ v9=>
(gO (cmpI .eql v9.root x1 == true) (ZJ v9.pkg x2)).bind λ a8=>
if(cmpI .eql v9.root x1&&a8)=true then(some (.inr (.inr true)))
else((i64 (s4+(1:Int))).bind λ a9=>
some (.inl a9)))
else(some (.inr (.inl ())))
def Xu(x0:Tree)(x1:Int)(x2:Str):Option Bool:=
Option.bind (α:=Unit⊕Bool) (zE (λ s4=>Xb x0 x1 x2 s4) (0:Int)) (Sum.elim (λ _b2=>
some (decide (x2=(⟨[]⟩:Str)))) some)
theorem zb8{x1}(h:Xu x0 x1 x2=some r):Fn prog 176 [dt x0,dt x1,dt x2] (dt r):=by
 refine fq1 1 func176 λ M w0 _ j=>?_
 refine j.z1 (λ j=>za ?_)
 refine j.jbq 1 [2] (λ _=>[]) (λ _ _=>[]) h (λ o2 p2 k2=>?_) λ b2 q2 _ _ _ j h=>?_
 ·refine j.z1 λ j=>?_
  refine j.lpq 1 [1,2,10,11] (λ s4=>[(12,dt s4)]) (λ _ _=>[]) p2 λ s4 x4 q4 _ _ _ j h hx4=>?_
  refine j.zc h (λ j h=>?_) λ j h=>?_
  ·have⟨v9,p9,h⟩:=bs h
   refine QY<|j.zg 2 λ j=>?_
   refine j.alloc 0 Z Z kZ45 Js (gl Z) [1,2,10,11,12,15] Z [] Z Z λ a9 _ _ _ j=>?_
   refine j.store (sb:=8) 0 FldS.id Z Z Z kT45 Z Z (tp Z) Z [1,2,10,11,12] Z [] Z Z (λ _ _ j=>Wz ?_)
   have⟨b3,a8,h⟩:=bs h
   refine j.zc h (λ j h=>?_) (λ j h=>?_) (hs:=sc Z (jQ File.fld0 Z T)<|sc Z (y8 Z T)<|sZ 3 (r:=by exact sg Z Z (λ hg=>jQ File.fld1 Z T)<|sg Z Z (λ hg=>y8 Z V)<|sZ 1 (r:=by exact sg Z Z (λ hg=>oK (za8 (gh hg a8)))<|segZ)))
   ·exact j.ze (jo (lo h hx4) k2)
   have⟨b5,b6,h⟩:=bs h
   exact j.zn [] h
  have h:=lo h hx4
  exact flz h
 exact j.ze h
instance:Ct3 prog 176 dt dt dt dt Xu:=⟨λ h=>zb8 h⟩
def YV:Option Spec:=
some (⟨(0:Int),(-1:Int),([]:List Int)⟩:Spec)
theorem zfh{r:Spec}(h:YV=some r):Fn prog 137 [] (dt r):=by
 refine fq1 1 func137 λ M _ _ j=>?_
 refine QY<|j.alloc 0 Z Z kZ137 QK (gl Z) [] Z [] Z Z (λ b1 _ _ _ j=>Wz ?_)
 refine QY<|j.zh 2 [(0,0)] (λ j=>?_) (hs:=sc Z (xH (opds:=[]) (α:=Int) Z Z Z .nil)<|sc Z (yf (parts:=[(0,.const (.int .i64 0)),(1,.const (.int .i64 (-1))),(2,.tmp 1)]) (ns:=[1,1,1]) (zs:=zpSpec) Z Z (λ w a hl=>FA ⟨by decide,Z⟩ (FA ⟨by decide,Z⟩ (FA ⟨by decide,Rep.len (α:=List Int) (OpdR.cells T hl)⟩ FN))) (λ w a hl=>Spec.parts (x:=(⟨(0:Int),(-1:Int),([]:List Int)⟩:Spec)) (OpdR.cells cI hl) (OpdR.cells cI hl) (OpdR.cells T hl)))<|.nil)
 refine j.store (sb:=0) 0 FldS.id Z Z Z zbg Z Z (tp Z) Z [] Z [] Z Z (λ _ _ j=>Wz ?_)
 exact j.ret_box Z zbg Z h
instance:Ct0 prog 137  dt YV:=⟨λ h=>zfh h⟩
def Zv(x0:List Int)(s4:Int):Option (Int⊕(Unit⊕Bool)):=
if(cmpI .lss s4 (x0.length:Int))=true then((atI x0 s4).bind λ v9=>
(yg v9 (0:Int) (2:Int)).bind λ a8=>
(gO ((!a8) == false) (WB x0 s4)).bind λ a9=>
(gO ((!a8) == false) (xM a9 v9)).bind λ b3=>
if((!a8)||b3)=true then(some (.inr (.inr false)))
else((i64 (s4+(1:Int))).bind λ b5=>
some (.inl b5)))
else(some (.inr (.inl ())))
def ZL(x0:List Int):Option Bool:=
Option.bind (α:=Unit⊕Bool) (zE (λ s4=>Zv x0 s4) (0:Int)) (Sum.elim (λ _b2=>
some true) some)
theorem Q7{x0}(h:ZL x0=some r):Fn prog 37 [dt x0] (dt r):=by
 refine fq1 0 func37 λ M w0 _ j=>?_
 refine j.z1 (λ j=>za ?_)
 refine j.jb [] (λ _=>[]) h (λ o2 p2 k2=>?_) λ b2 _ _ j h=>?_
 ·refine j.z1 λ j=>?_
  refine j.lp [0,5,6] (λ s4=>[(7,dt s4)]) p2 λ s4 x4 _ _ j h hx4=>?_
  refine j.zc h (λ j h=>?_) λ j h=>?_
  ·have⟨v9,p9,h⟩:=bs h
   refine j.z1 λ j=>?_
   have⟨b5,a8,b6,a9,h⟩:=Ke h
   have⟨b7,b3,h⟩:=bs h
   refine j.zc h (λ j h=>?_) (λ j h=>?_) (hs:=sZ 1 (r:=by exact sc Z (oK (yQ a8))<|sZ 4 (r:=by exact sg Z Z (λ hg=>xSliH Z V V (gh hg a9))<|sZ 1 (r:=by exact sg Z Z (λ hg=>oK (Xn (gh hg b3)))<|segZ))))
   ·exact j.ze (jo (lo h hx4) k2)
   have⟨b8,b9,h⟩:=bs h
   exact j.zn [] h
  have h:=lo h hx4
  exact flz h
 exact j.ze h
instance:Ct1 prog 37 dt dt ZL:=⟨λ h=>Q7 h⟩
def Xc(x0:Tree)(x1:File)(s4:Int):Option (Int⊕(Unit⊕Int)):=
if(cmpI .lss s4 (x0.files.length:Int))=true then((atI x0.files s4).bind λ v9=>
(ZE x1 v9).bind λ a8=>
if a8=true then(some (.inr (.inr s4)))
else((i64 (s4+(1:Int))).bind λ a9=>
some (.inl a9)))
else(some (.inr (.inl ())))
def Yq(x0:Tree)(x1:File):Option Int:=
Option.bind (α:=Unit⊕Int) (zE (λ s4=>Xc x0 x1 s4) (0:Int)) (Sum.elim (λ _b2=>
some (-1:Int)) some)
theorem QO{r}(h:Yq x0 x1=some r):Fn prog 175 [dt x0,dt x1] (dt r):=by
 refine fq1 1 func175 λ M w0 _ j=>?_
 refine j.z1 (λ j=>za ?_)
 refine j.jbq 1 [] (λ _=>[]) (λ _ _=>[]) h (λ o2 p2 k2=>?_) λ b2 q2 _ _ _ j h=>?_
 ·refine j.z1 λ j=>?_
  refine j.lpq 1 [3,8,9] (λ s4=>[(10,dt s4)]) (λ _ _=>[]) p2 λ s4 x4 q4 _ _ _ j h hx4=>?_
  refine j.zc h (λ j h=>?_) λ j h=>?_
  ·have⟨v9,p9,h⟩:=bs h
   refine QY<|j.zg 3 λ j=>?_
   refine j.alloc 0 Z Z kZ45 Js (gl Z) [3,8,9,10,12,14] Z [] Z Z λ a8 _ _ _ j=>?_
   refine j.zh 1 [(6,0)] λ j=>?_
   refine j.store (sb:=6) 0 FldS.id Z Z Z kT45 Z Z (tp Z) Z [3,5,8,9,10] Z [] Z Z (λ _ _ j=>Wz ?_)
   have⟨a9,b3,h⟩:=bs h
   refine j.zc h (λ j h=>?_) λ j h=>?_
   ·exact j.ze (jo (lo h hx4) k2)
   have⟨b5,b6,h⟩:=bs h
   exact j.zn [] h
  have h:=lo h hx4
  exact flz h
 exact j.ze h
instance:Ct2 prog 175 dt dt dt Yq:=⟨λ h=>QO h⟩
theorem kN195:fnB prog 195=true:=by kernel_rfl
theorem kN196:fnB prog 196=true:=by kernel_rfl
def W0(x0:List Str):Option (List Str):=
(wo x0).bind λ v4=>
(xJ v4).bind λ v8=>
(appO 16 [] v8).bind λ a8=>
some a8
theorem impl_sorted_w{x0:List Str}{r:List Str}(h:W0 x0=some r):zcE prog 161 9 x0 [] r:=by
 refine fnxT (fn:=f161) 1 2 func161 Z (oD Z) Z (λ M g _ _ j=>wqw ?_)
 refine j.zo [(0,1)] (λ j=>?_) (hs:=sc Z (oA Z (jE (α:=Str) (e:=9)))<|.nil)
 refine QY<|j.zh 1 [(0,1),(3,1)] λ j=>?_
 have⟨v4,p4,h⟩:=bs h
 refine j.inpl (sb:=0) 1 Z Z kN195 Z Z Z (JH p4) [] Z [] Z Z ⟨Z,Z,by decide⟩ (λ _ _ _ j=>Wz ?_)
 refine QY<|j.zh 2 [(5,0),(6,1)] (λ j=>?_) (hs:=sc Z (xt (α:=Str) (e:=9) Z (ht':=WC))<|segZ)
 have⟨v8,p8,h⟩:=bs h
 refine j.take (l:=[]) 1 Z Z kN196 Z Z .nil (WK p8) [] Z [5] Z Z λ g7 _ _ _ j=>?_
 have⟨a9,a8,h⟩:=bs h
 refine j.app 0 Z Z kE101 Z Z Z row_tip a8 [] Z [] Z Z λ b3 _ _ _ j=>?_
 refine j.zh 1 [(2,0)] (λ j=>Wz ?_)
 exact j.ret_take 0 Z Z (λ _ h=>h) h
def wh(x0:Str)(v4:List Str)(s7:(List Str)×Int):Option (((List Str)×Int)⊕(List Str)):=
if(cmpI .lss s7.2 (v4.length:Int))=true then((ZI x0).bind λ a8=>
(i64 (s7.2+(1:Int))).bind λ a9=>
(WB a8 a9).bind λ b3=>
(ZD b3 (⟨[46]⟩:Str)).bind λ b5=>
(appO 16 s7.1 ([b5]:List Str)).bind λ b6=>
(i64 (s7.2+(1:Int))).bind λ b7=>
some (.inl (b6,b7)))
else(some (.inr s7.1))
def jx(x0:Str):Option (List Str):=
Option.bind (α:=(List Str)) ((ZI x0).bind λ v4=>
zE (λ s7=>wh x0 v4 s7) ([],(0:Int))) λ o3=>
some o3
theorem zdn{x0 r}(h:jx x0=some r):FnOwn prog 198 [dt x0] 9 r:=by
 refine fqO 1 func198 λ M w0 _ j=>?_
 refine j.z1 (λ j=>?_) (hs:=sc Z (oA Z (jE (α:=Str) (e:=9)))<|.nil)
 refine j.zo [(3,0)] (λ j=>?_) (hs:=sc Z (xt (α:=Str) (e:=9) Z (ht':=WC))<|segZ)
 refine za<|j.jmq 1 [] (λ _=>[]) (λ o3 q=>[(3,0,dtip (q 0) 9 o3)]) h (λ o3 p3=>?_) λ o3 q3 _ _ _ j h=>?_
 ·obtain⟨v4,p4,h⟩:=bsW p3 J7
  refine j.zo [(3,0)] λ j=>?_
  refine j.lpq 1 [0,8] (λ s7=>[(9,dt s7.2)]) (λ s7 q=>[(3,0,dtip (q 0) 9 s7.1)]) h λ s7 x7 q7 _ _ _ j h hx7=>?_
  refine j.zd [(3,0)] h (λ j h=>?_) λ j h=>?_
  ·refine j.zo [(3,0)] (λ j=>QY ?_)
   have⟨b6,a8,b7,b8,h⟩:=Ke h
   have⟨b9,a9,c8,b3,h⟩:=Ke h
   refine j.zh 8 [(3,0),(12,0)] (λ j=>?_) (hs:=sZ 2 (r:=by exact sc Z (oK (J7 a8))<|sZ 2 (r:=by exact sc Z (xSliH Z (ht:=WC) T T a9)<|sc Z (oK (za6 b3))<|sc Z (xH (opds:=[.tmp 18]) Z (ht':=WC) Z Z (.cons T .nil))<|.nil)))
   have⟨d1,b5,h⟩:=bs h
   refine j.app 0 Z Z kE101 Z Z Z yI b5 [0,8,9] Z [] Z Z λ d2 _ _ _ j=>?_
   refine j.zh 1 [(3,0)] (λ j=>Wz ?_)
   have⟨d3,d4,h⟩:=bs h
   exact j.zn [(3,0)] h
  have h:=lo h hx7
  cases h
  exact fz
 exact j.zl 0 h
