import Derived.Test.YtbbfcjifihknnaaGreatDoorTO
import Derived.Test.YtbbfcjifihknnaaGreatDoorTB
import Derived.Test.YtbbfcjifihknnaaGreatDoorTF
namespace Go.Proofs.YtbbfcjifihknnaaGreatDoor
open Go.RowKit Tryz
attribute [local irreducible] OpRel OpdR
set_option maxRecDepth 10000
set_option maxHeartbeats 1600000
variable{x1:List Int}{r:List Str}{x2 x3:Str}{x0:Tree}
theorem zb5:∀ {M:Nat->Prop} {look:Nat->Option Dt} {o:Oper} {q0:Operand} {y0:Int},o.op=.build 175 #[(0,q0)]->OpdR M look q0 (dt y0)->OpRel prog M look o (dt (⟨y0,⟨[]⟩,0,⟨[]⟩,0⟩:Stmt)):=@λ _ _ _ q0 y0 ho h0=>yt (parts:=[(0,q0)]) (ns:=[1,1,1,1,1]) (zs:=zcN) Z ho (λ w a hl=>FA ⟨(by decide:0<5),Rep.len (α:=Int) (OpdR.cells h0 hl)⟩ FN) (λ w a hl=>Stmt.parts (x:=(⟨y0,⟨[]⟩,0,⟨[]⟩,0⟩:Stmt)) (OpdR.cells h0 hl) Zq ⟨Z,trivial⟩ Zq ⟨Z,trivial⟩)
theorem kZ175:wk prog 175=some zcStmt:=by kernel_rfl
theorem Q4:tyB prog 175 true 5=true:=by kernel_rfl
theorem zb6:fldB prog 175 1 1=true:=by kernel_rfl
theorem kF175_4:fldB prog 175 4 4=true:=by kernel_rfl
theorem zb7:fldB prog 175 2 2=true:=by kernel_rfl
theorem J9:fldB prog 175 3 3=true:=by kernel_rfl
def YD(x0:Stmt):Option Bool:=
Option.bind (α:=Bool) (if cmpI .eql x0.kind 0 then(some (cmpI .eql x0.kind 0))
else(some (cmpI .eql x0.kind 2))) λ o8=>
if o8=true then((gO (decide (x0={ (⟨x0.kind,⟨[]⟩,0,⟨[]⟩,0⟩:Stmt) with module:=x0.module }) == true) (zZ x0.module)).bind λ v19=>
some (decide (x0={ (⟨x0.kind,⟨[]⟩,0,⟨[]⟩,0⟩:Stmt) with module:=x0.module })&&v19))
else(if cmpI .eql x0.kind 1 then((gO (cmpI .eql x0.value 0 == true) (yZ x0.level (0:Int) (3:Int))).bind λ v25=>
(gO ((cmpI .eql x0.value 0&&v25) == true) (y9 x0.name)).bind λ v26=>
(gO (((cmpI .eql x0.value 0&&v25)&&v26) == true) (zZ x0.module)).bind λ v27=>
some (((cmpI .eql x0.value 0&&v25)&&v26)&&(v27||(decide (x0.module=(⟨[]⟩:Str))&&cmpI .geq x0.level 1))))
else(if cmpI .eql x0.kind 3 then((gO (decide (x0={ { (⟨x0.kind,⟨[]⟩,0,⟨[]⟩,0⟩:Stmt) with name:=x0.name } with value:=x0.value }) == true) (y9 x0.name)).bind λ v54=>
(gO ((decide (x0={ { (⟨x0.kind,⟨[]⟩,0,⟨[]⟩,0⟩:Stmt) with name:=x0.name } with value:=x0.value })&&v54) == true) (yZ x0.value (0:Int) (99:Int))).bind λ v55=>
some ((decide (x0={ { (⟨x0.kind,⟨[]⟩,0,⟨[]⟩,0⟩:Stmt) with name:=x0.name } with value:=x0.value })&&v54)&&v55))
else(if cmpI .eql x0.kind 4 then((gO (decide (x0={ (⟨x0.kind,⟨[]⟩,0,⟨[]⟩,0⟩:Stmt) with name:=x0.name }) == true) (y9 x0.name)).bind λ v65=>
some (decide (x0={ (⟨x0.kind,⟨[]⟩,0,⟨[]⟩,0⟩:Stmt) with name:=x0.name })&&v65))
else(if cmpI .eql x0.kind 5 then(some (decide (x0=(⟨x0.kind,⟨[]⟩,0,⟨[]⟩,0⟩:Stmt))))
else(some false)))))
theorem impl_stmtOk_w{x0:Stmt}{r:Bool}(h:YD x0=some r):Fn prog 216 [dt x0] (dt r):=by
 refine fq1 1 func216 λ M w0 _ j=>?_
 refine j.z1 (λ j=>Ka ?_)
 refine j.zg 3 (λ j=>?_) (hs:=sZ 2 (r:=by exact sc Z (zb5 Z T)<|.nil))
 refine j.alA 0 zcM [1,6] [] λ b4 j=>?_
 refine j.stA 3 0 FldS.id (tp Z) [1] [] (λ j=>Kb ?_)
 refine j.zo [(3,0)] (λ j=>za ?_)
 refine wqb ?_
 refine j.jmq 1 [1,8] (λ o8=>[(9,dt o8)]) (λ _ q=>[(3,0,dbox (q 0) 0 (⟨x0.kind,⟨[]⟩,0,⟨[]⟩,0⟩:Stmt))]) h (λ o8 p8=>?_) λ o8 q8 _ _ _ j h=>?_
 ·refine j.zd [(3,0)] p8 (λ j h=>?_) λ j h=>?_
  ·cases h
   exact fz
  refine j.zo [(3,0)] λ j=>?_
  cases h
  exact fz
 refine j.cq h (λ h=>?_) λ h=>?_
 ·refine Ka ?_
  refine j.zh 3 [(3,0),(14,0)] λ j=>?_
  refine j.stA 3 0 Stmt.set1 (tp Z) [1] [] (λ j=>Kb ?_)
  have⟨v19,p19,h⟩:=bs h
  exact j.ze h (hs:=sZ 2 (r:=by exact sc Z (Jz Z T T)<|sZ 3 (r:=by exact sg Z Z (λ hg=>oK (xa (gh hg p19)))<|segZ)))
 refine j.zd [(3,0)] h (λ j h=>?_) λ j h=>?_
 ·have⟨v25,p25,h⟩:=bs h
  have⟨v26,p26,v27,p27,h⟩:=Kg h
  exact j.ze h (hs:=sZ 6 (r:=by exact sg Z Z (λ hg=>oK (jx (gh hg p25)))<|sZ 4 (r:=by exact sg Z Z (λ hg=>oK (jC (gh hg p26)))<|sZ 4 (r:=by exact sg Z Z (λ hg=>oK (xa (gh hg p27)))<|sg Z Z (λ hg=>oM Z V)<|sgg Z Z (λ hg=>zJ Stmt.fld1 Z (ht:=zb6) T)<|sgg Z Z (λ hg=>zm Z V)<|sgg Z Z (λ hg=>ji Z V (zL))<|sgg Z Z (λ hg=>oM Z V)<|sgg Z Z (λ hg=>zJ Stmt.fld2 Z (ht:=zb7) T)<|sgg Z Z (λ hg=>zm Z V)<|sgg Z Z (λ hg=>oCI Z V cI)<|sgg Z Z (λ hg=>xf Z V (opd_gg hg Z))<|sg Z Z (λ hg=>ZO Z V (opd_gg hg Z))<|segZ))))
 refine j.zd [(3,0)] h (λ j h=>?_) λ j h=>?_
 ·refine j.opn (s:=1) λ b35 o35 c35 j=>?_
  refine j.held (λ w=>CellsAt w b35 o35 c35) zG λ _ j=>?_
  refine j.tA 0 1 (λ _ j=>?_) (ht:=J9)
  refine j.tF 1 1 55 Stmt.fld3 λ _ j=>?_
  refine j.tA 2 1 (λ _ j=>?_) (ht:=kF175_4)
  refine j.tF 3 1 57 Stmt.fld4 (λ _ j=>aK1 4 ?_)
  refine j.zh 1 [(3,0),(59,0)] λ j=>?_
  refine aHN (j.pkZ 1) ?_
  refine aK1 5 ?_
  refine j.stA 3 0 Stmt.set3 (tp Z) [1,58] [] λ j=>?_
  refine aHN (j.pkZ 1) ?_
  refine aK1 6 ?_
  refine j.zh 1 [(3,0),(60,0)] λ j=>?_
  refine aHN (j.pkZ 1) ?_
  refine aK1 7 ?_
  refine j.stA 3 0 Stmt.set4 (tp Z) [1] [] λ j=>?_
  refine aHN (j.pkZ 1) ?_
  refine aK0 ?_
  have j:=j.clo (s:=1)
  have⟨v54,p54,v55,p55,h⟩:=Kg h
  exact j.ze h (hs:=sZ 2 (r:=by exact sc Z (Jz Z T T)<|sZ 3 (r:=by exact sg Z Z (λ hg=>oK (jC (gh hg p54)))<|sZ 4 (r:=by exact sg Z Z (λ hg=>oK (jx (gh hg p55)))<|segZ))))
 refine j.zd [(3,0)] h (λ j h=>?_) λ j h=>?_
 ·refine Ka ?_
  refine j.zh 3 [(3,0),(78,0)] λ j=>?_
  refine j.stA 3 0 Stmt.set3 (tp Z) [1] [] (λ j=>Kb ?_)
  have⟨v65,p65,h⟩:=bs h
  exact j.ze h (hs:=sZ 2 (r:=by exact sc Z (Jz Z T T)<|sZ 3 (r:=by exact sg Z Z (λ hg=>oK (jC (gh hg p65)))<|segZ)))
 refine j.zd [(3,0)] h (λ j h=>?_) λ j h=>?_
 ·exact j.ze h (hs:=sZ 2 (r:=by exact sc Z (Jz Z T T)<|segZ))
 exact j.ze h
instance:Ct1 prog 216 dt dt YD:=⟨λ h=>impl_stmtOk_w h⟩
theorem kL119:isSl prog 119=true:=by kernel_rfl
theorem kS119:slB prog 119 5=true:=by kernel_rfl
theorem kF121_5:fldB prog 121 5 5=true:=by kernel_rfl
theorem WO:fldB prog 36 0 0=true:=by kernel_rfl
theorem kS34:slB prog 34 6=true:=by kernel_rfl
theorem zaZ:tyB prog 121 true 6=true:=by kernel_rfl
theorem kZ121:wk prog 121=some zcFile:=by kernel_rfl
theorem kZ156:wk prog 156=some zcSpec:=by kernel_rfl
theorem Ys:tyB prog 156 true 3=true:=by kernel_rfl
theorem kU147:isFn prog 147=true:=by kernel_rfl
theorem kT36:tyB prog 36 true 1=true:=by kernel_rfl
theorem kE25:elB prog 25 3 1 8=true:=by kernel_rfl
theorem kF156_0:fldB prog 156 0 0=true:=by kernel_rfl
theorem kF156_2:fldB prog 156 2 2=true:=by kernel_rfl
theorem kT25:tyB prog 25 false 1=true:=by kernel_rfl
theorem zb8:fldVB prog 156 0 0 false 1=true:=by kernel_rfl
def qI(x0:List Stmt)(s4:Int):Option (Int⊕(Unit⊕Bool)):=
if(cmpI .lss s4 (x0.length:Int))=true then((atI x0 s4).bind λ v9=>
(YD v9).bind λ v14=>
if(!v14)=true then(some (.inr (.inr false)))
else((i64 (s4+(1:Int))).bind λ v22=>
some (.inl v22)))
else(some (.inr (.inl ())))
def qU(x0:List Stmt):Option Bool:=
Option.bind (α:=Unit⊕Bool) (zR (λ s4=>qI x0 s4) (0:Int)) (Sum.elim (λ _b2=>
some (cmpI .leq (x0.length:Int) 8)) some)
theorem JK{x0:List Stmt}{r:Bool}(h:qU x0=some r):Fn prog 148 [dt x0] (dt r):=by
 refine fq1 1 func148 λ M w0 _ j=>?_
 refine j.z1 (λ j=>za ?_)
 refine j.jbq 1 [0] (λ _=>[]) (λ _ _=>[]) h (λ o2 p2 k2=>?_) λ b2 q2 _ _ _ j h=>?_
 ·refine j.z1 λ j=>?_
  refine j.lpq 1 [0,5,6] (λ s4=>[(7,dt s4)]) (λ _ _=>[]) p2 λ s4 x4 q4 _ _ _ j h hx4=>?_
  refine j.zc h (λ j h=>?_) λ j h=>?_
  ·refine Ka ?_
   have⟨v9,p9,h⟩:=bs h
   refine j.zg 2 λ j=>?_
   refine j.alloc 0 Z Z kZ175 zcM (gl Z) [0,5,6,7,10] Z [] Z Z λ b12 _ _ _ j=>?_
   refine j.store (sb:=4) 0 FldS.id Z Z Z Q4 Z Z (tp Z) Z [0,5,6,7] Z [] Z Z (λ _ _ j=>Kb ?_)
   have⟨v14,p14,h⟩:=bs h
   refine j.zc h (λ j h=>?_) λ j h=>?_
   ·exact j.ze (jo (lo h hx4) k2)
   have⟨v22,p22,h⟩:=bs h
   exact j.zn [] h
  have h:=lo h hx4
  exact flz h
 exact j.ze h
instance:Ct1 prog 148 dt dt qU:=⟨λ h=>JK h⟩
def ZD(x0:File):Option Bool:=
(yZ x0.root (0:Int) (2:Int)).bind λ v2=>
(gO ((!v2) == false) (xG x0.pkg)).bind λ v3=>
(gO (((!v2)||(!v3)) == false) (yZ x0.stamp (0:Int) (99:Int))).bind λ v4=>
(gO ((((!v2)||(!v3))||(!v4)) == false) (qU x0.body)).bind λ v5=>
if((((!v2)||(!v3))||(!v4))||(!v5))=true then(some false)
else(if x0.init=true then(some (decide (x0.pkg≠(⟨[]⟩:Str))&&decide (x0.name=(⟨[]⟩:Str))))
else((y9 x0.name).bind λ v18=>
(gO (v18 == true) (x9 x0.pkg x0.name)).bind λ v19=>
some (v18&&decide (v19≠(⟨[]⟩:Str)))))
theorem impl_fileOk_w{x0:File}{r:Bool}(h:ZD x0=some r):Fn prog 88 [dt x0] (dt r):=by
 refine fq1 0 func88 λ M _ _ j=>?_
 refine j.z1 λ j=>?_
 have⟨v2,p2,v3,p3,h⟩:=Kg h
 have⟨v4,p4,v5,p5,h⟩:=Kg h
 refine j.zc h (λ j h=>?_) (λ j h=>?_) (hs:=sZ 2 (r:=by exact sc Z (oK (jx p2))<|sZ 4 (r:=by exact sg Z Z (λ hg=>oK (jD (gh hg p3)))<|sZ 5 (r:=by exact sg Z Z (λ hg=>oK (jx (gh hg p4)))<|sZ 5 (r:=by exact sg Z Z (λ hg=>oK (JK (gh hg p5)))<|segZ)))))
 ·exact j.ze h
 refine j.zc h (λ j h=>?_) λ j h=>?_
 ·exact j.ze h
 have⟨v18,p18,v19,p19,h⟩:=Kg h
 exact j.ze h (hs:=sZ 2 (r:=by exact sc Z (oK (jC p18))<|sZ 5 (r:=by exact sg Z Z (λ hg=>oK (WL (gh hg p19)))<|segZ)))
instance:Ct1 prog 88 dt dt ZD:=⟨λ h=>impl_fileOk_w h⟩
def qJ(v10:File)(v25:List File)(s28:Int):Option (Int⊕(Unit⊕(Int⊕(Unit⊕Bool)))):=
if(cmpI .lss s28 (v25.length:Int))=true then((atI v25 s28).bind λ v33=>
(qT v10 v33).bind λ v38=>
if v38=true then(some (.inr (.inr (.inr (.inr false)))))
else((i64 (s28+(1:Int))).bind λ v48=>
some (.inl v48)))
else(some (.inr (.inl ())))
def qK(x0:Tree)(s4:Int):Option (Int⊕(Unit⊕Bool)):=
if(cmpI .lss s4 (x0.files.length:Int))=true then(Option.bind (α:=Unit⊕(Int⊕(Unit⊕Bool))) ((atI x0.files s4).bind λ v10=>
(ZD v10).bind λ v16=>
if(!v16)=true then(some (.inr (.inr (.inr false))))
else((QI x0.files s4).bind λ v25=>
zR (λ s28=>qJ v10 v25 s28) (0:Int))) (Sum.elim (λ _b9=>
(i64 (s4+(1:Int))).bind λ v53=>
some (.inl v53)) some))
else(some (.inr (.inl ())))
def xb(x0:Tree):Option Bool:=
Option.bind (α:=Unit⊕Bool) (zR (λ s4=>qK x0 s4) (0:Int)) (Sum.elim (λ _b2=>
some (cmpI .leq (x0.files.length:Int) 12)) some)
theorem wO{r:Bool}(h:xb x0=some r):Fn prog 47 [dt x0] (dt r):=by
 refine fq1 2 func47 λ M w0 _ j=>?_
 refine j.z1 (λ j=>za ?_)
 refine j.jbq 2 [1] (λ _=>[]) (λ _ _=>[]) h (λ o2 p2 k2=>?_) λ b2 q2 _ _ _ j h=>?_
 ·refine j.z1 λ j=>?_
  refine j.lpq 2 [1,8,9] (λ s4=>[(10,dt s4)]) (λ _ _=>[]) p2 λ s4 x4 q4 _ _ _ j h hx4=>?_
  refine j.zc h (λ j h=>?_) λ j h=>?_
  ·refine wqk ?_
   refine za ?_
   refine j.jbq 2 [1,8,9,10] (λ _=>[]) (λ _ _=>[]) h (λ o9 p9 k9=>?_) λ b9 q9 _ _ _ j h=>?_
   ·refine Ka ?_
    have⟨v10,p10,h⟩:=bs p9
    refine j.zg 3 λ j=>?_
    refine j.alloc 0 Z Z kZ121 zbn (gl Z) [1,8,9,10,12,14] Z [] Z Z λ b13 _ _ _ j=>?_
    refine j.zh 1 [(4,0)] λ j=>?_
    refine j.store (sb:=4) 0 FldS.id Z Z Z zaZ Z Z (tp Z) Z [1,3,8,9,10] Z [] Z Z (λ _ _ j=>Kb ?_)
    have⟨v16,p16,h⟩:=bs h
    refine j.zd [(4,0)] h (λ j h=>?_) λ j h=>?_
    ·exact j.ze (jo (lo (jo h k9) hx4) k2)
    have⟨v25,p25,h⟩:=bs h
    refine j.zo [(4,0)] λ j=>?_
    refine j.lpq 2 [1,8,9,10,21,22] (λ s28=>[(23,dt s28)]) (λ _ q=>[(4,0,dbox (q 0) 0 v10)]) h λ s28 x28 q28 _ _ _ j h hx28=>?_
    refine j.zd [(4,0)] h (λ j h=>?_) λ j h=>?_
    ·refine Ka ?_
     have⟨v33,p33,h⟩:=bs h
     refine j.zh 2 [(4,0)] λ j=>?_
     refine j.alloc 1 Z Z kZ121 zbn (gl Z) [1,8,9,10,21,22,23,26] Z [4] Z Z λ b36 _ _ _ j=>?_
     refine j.store (sb:=6) 1 FldS.id Z Z Z zaZ Z Z (tp Z) Z [1,8,9,10,21,22,23] Z [4] Z Z (λ _ _ j=>Kb ?_)
     have⟨v38,p38,h⟩:=bs h
     refine j.zd [(4,0)] h (λ j h=>?_) λ j h=>?_
     ·exact j.ze (jo (lo (jo (lo h hx28) k9) hx4) k2)
     have⟨v48,p48,h⟩:=bs h
     exact j.zn [(4,0)] h
    have h:=lo h hx28
    exact flz h
   have⟨v53,p53,h⟩:=bs h
   exact j.zn [] h
  have h:=lo h hx4
  exact flz h
 exact j.ze h
instance:Ct1 prog 47 dt dt xb:=⟨λ h=>wO h⟩
def Zt(x0:File):Option Str:=
(ZD x0).bind λ v2=>
if(!v2)=true then(some (⟨[]⟩:Str))
else(if x0.init=true then(some x0.pkg)
else((x9 x0.pkg x0.name).bind λ v12=>
some v12))
theorem zdF{x0:File}{r:Str}(h:Zt x0=some r):Fn prog 180 [dt x0] (dt r):=by
 refine fq1 0 func180 λ M _ _ j=>?_
 refine j.z1 λ j=>?_
 have⟨v2,p2,h⟩:=bs h
 refine j.zc h (λ j h=>?_) λ j h=>?_
 ·exact j.ze h
 refine j.zc h (λ j h=>?_) λ j h=>?_
 ·exact j.ze h
 have⟨v12,p12,h⟩:=bs h
 exact j.ze h
instance:Ct1 prog 180 dt dt Zt:=⟨λ h=>zdF h⟩
def Yh(x0:Tree)(x1:Int)(x2:Str)(s4:Int):Option (Int⊕(Unit⊕Bool)):=
if(cmpI .lss s4 (x0.files.length:Int))=true then((atI x0.files s4).bind λ v9=>
(gO (cmpI .eql v9.root x1 == true) (Z3 v9.pkg x2)).bind λ v14=>
if(cmpI .eql v9.root x1&&v14)=true then(some (.inr (.inr true)))
else((i64 (s4+(1:Int))).bind λ v22=>
some (.inl v22)))
else(some (.inr (.inl ())))
def YE(x0:Tree)(x1:Int)(x2:Str):Option Bool:=
Option.bind (α:=Unit⊕Bool) (zR (λ s4=>Yh x0 x1 x2 s4) (0:Int)) (Sum.elim (λ _b2=>
some (decide (x2=(⟨[]⟩:Str)))) some)
theorem za0{x1:Int}{r:Bool}(h:YE x0 x1 x2=some r):Fn prog 220 [dt x0,dt x1,dt x2] (dt r):=by
 refine fq1 1 func220 λ M w0 _ j=>?_
 refine j.z1 (λ j=>za ?_)
 refine j.jbq 1 [2] (λ _=>[]) (λ _ _=>[]) h (λ o2 p2 k2=>?_) λ b2 q2 _ _ _ j h=>?_
 ·refine j.z1 λ j=>?_
  refine j.lpq 1 [1,2,10,11] (λ s4=>[(12,dt s4)]) (λ _ _=>[]) p2 λ s4 x4 q4 _ _ _ j h hx4=>?_
  refine j.zc h (λ j h=>?_) λ j h=>?_
  ·refine Ka ?_
   have⟨v9,p9,h⟩:=bs h
   refine j.zg 2 λ j=>?_
   refine j.alloc 0 Z Z kZ121 zbn (gl Z) [1,2,10,11,12,15] Z [] Z Z λ b12 _ _ _ j=>?_
   refine j.store (sb:=8) 0 FldS.id Z Z Z zaZ Z Z (tp Z) Z [1,2,10,11,12] Z [] Z Z (λ _ _ j=>Kb ?_)
   have⟨v14,p14,h⟩:=bs h
   refine j.zc h (λ j h=>?_) (λ j h=>?_) (hs:=sc Z (yf File.fld0 Z T)<|sc Z (yb Z T)<|sZ 3 (r:=by exact sg Z Z (λ hg=>yf File.fld1 Z T)<|sg Z Z (λ hg=>yb Z V)<|sZ 1 (r:=by exact sg Z Z (λ hg=>oK (QV (gh hg p14)))<|segZ)))
   ·exact j.ze (jo (lo h hx4) k2)
   have⟨v22,p22,h⟩:=bs h
   exact j.zn [] h
  have h:=lo h hx4
  exact flz h
 exact j.ze h
instance:Ct3 prog 220 dt dt dt dt YE:=⟨λ h=>za0 h⟩
def ja:Option Spec:=
some (⟨(0:Int),(-1:Int),([]:List Int)⟩:Spec)
theorem WP{r:Spec}(h:ja=some r):Fn prog 159 [] (dt r):=by
 refine fq1 1 func159 λ M _ _ j=>?_
 refine Ka ?_
 refine j.alloc 0 Z Z kZ156 WH (gl Z) [] Z [] Z Z (λ b1 _ _ _ j=>Kb ?_)
 refine Ka ?_
 refine j.zh 2 [(0,0)] (λ j=>?_) (hs:=sc Z (xO (opds:=[]) (α:=Int) Z Z Z .nil)<|sc Z (yt (parts:=[(0,.const (.int .i64 0)),(1,.const (.int .i64 (-1))),(2,.tmp 1)]) (ns:=[1,1,1]) (zs:=zcO) Z Z (λ w a hl=>FA ⟨by decide,Z⟩ (FA ⟨by decide,Z⟩ (FA ⟨by decide,Rep.len (α:=List Int) (OpdR.cells T hl)⟩ FN))) (λ w a hl=>Spec.parts (x:=(⟨(0:Int),(-1:Int),([]:List Int)⟩:Spec)) (OpdR.cells cI hl) (OpdR.cells cI hl) (OpdR.cells T hl)))<|.nil)
 refine j.store (sb:=0) 0 FldS.id Z Z Z Ys Z Z (tp Z) Z [] Z [] Z Z (λ _ _ j=>Kb ?_)
 exact j.ret_box Ys h
instance:Ct0 prog 159  dt ja:=⟨λ h=>WP h⟩
def qL(x0:List Int)(s4:Int):Option (Int⊕(Unit⊕Bool)):=
if(cmpI .lss s4 (x0.length:Int))=true then((atI x0 s4).bind λ v9=>
(yZ v9 (0:Int) (2:Int)).bind λ v12=>
(gO ((!v12) == false) (QI x0 s4)).bind λ v13=>
(gO ((!v12) == false) (xN v13 v9)).bind λ v14=>
if((!v12)||v14)=true then(some (.inr (.inr false)))
else((i64 (s4+(1:Int))).bind λ v24=>
some (.inl v24)))
else(some (.inr (.inl ())))
def wP(x0:List Int):Option Bool:=
Option.bind (α:=Unit⊕Bool) (zR (λ s4=>qL x0 s4) (0:Int)) (Sum.elim (λ _b2=>
some true) some)
theorem Yi{x0:List Int}{r:Bool}(h:wP x0=some r):Fn prog 48 [dt x0] (dt r):=by
 refine fq1 0 func48 λ M w0 _ j=>?_
 refine j.z1 (λ j=>za ?_)
 refine j.jb [] (λ _=>[]) h (λ o2 p2 k2=>?_) λ b2 _ _ j h=>?_
 ·refine j.z1 λ j=>?_
  refine j.lp [0,5,6] (λ s4=>[(7,dt s4)]) p2 λ s4 x4 _ _ j h hx4=>?_
  refine j.zc h (λ j h=>?_) λ j h=>?_
  ·have⟨v9,p9,h⟩:=bs h
   refine j.z1 λ j=>?_
   have⟨v12,p12,v13,p13,h⟩:=Kg h
   have⟨v14,p14,h⟩:=bs h
   refine j.zc h (λ j h=>?_) (λ j h=>?_) (hs:=sZ 1 (r:=by exact sc Z (oK (jx p12))<|sZ 4 (r:=by exact sg Z Z (λ hg=>xSliH Z V V (gh hg p13))<|sZ 1 (r:=by exact sg Z Z (λ hg=>oK (Yr (gh hg p14)))<|segZ))))
   ·exact j.ze (jo (lo h hx4) k2)
   have⟨v24,p24,h⟩:=bs h
   exact j.zn [] h
  have h:=lo h hx4
  exact flz h
 exact j.ze h
instance:Ct1 prog 48 dt dt wP:=⟨λ h=>Yi h⟩
def Yj(x0:Tree)(x1:File)(s4:Int):Option (Int⊕(Unit⊕Int)):=
if(cmpI .lss s4 (x0.files.length:Int))=true then((atI x0.files s4).bind λ v9=>
(qT x1 v9).bind λ v15=>
if v15=true then(some (.inr (.inr s4)))
else((i64 (s4+(1:Int))).bind λ v23=>
some (.inl v23)))
else(some (.inr (.inl ())))
def ZE(x0:Tree)(x1:File):Option Int:=
Option.bind (α:=Unit⊕Int) (zR (λ s4=>Yj x0 x1 s4) (0:Int)) (Sum.elim (λ _b2=>
some (-1:Int)) some)
theorem Jm{x1:File}{r:Int}(h:ZE x0 x1=some r):Fn prog 219 [dt x0,dt x1] (dt r):=by
 refine fq1 1 func219 λ M w0 _ j=>?_
 refine j.z1 (λ j=>za ?_)
 refine j.jbq 1 [] (λ _=>[]) (λ _ _=>[]) h (λ o2 p2 k2=>?_) λ b2 q2 _ _ _ j h=>?_
 ·refine j.z1 λ j=>?_
  refine j.lpq 1 [3,8,9] (λ s4=>[(10,dt s4)]) (λ _ _=>[]) p2 λ s4 x4 q4 _ _ _ j h hx4=>?_
  refine j.zc h (λ j h=>?_) λ j h=>?_
  ·refine Ka ?_
   have⟨v9,p9,h⟩:=bs h
   refine j.zg 3 λ j=>?_
   refine j.alloc 0 Z Z kZ121 zbn (gl Z) [3,8,9,10,12,14] Z [] Z Z λ b12 _ _ _ j=>?_
   refine j.zh 1 [(6,0)] λ j=>?_
   refine j.store (sb:=6) 0 FldS.id Z Z Z zaZ Z Z (tp Z) Z [3,5,8,9,10] Z [] Z Z (λ _ _ j=>Kb ?_)
   have⟨v15,p15,h⟩:=bs h
   refine j.zc h (λ j h=>?_) λ j h=>?_
   ·exact j.ze (jo (lo h hx4) k2)
   have⟨v23,p23,h⟩:=bs h
   exact j.zn [] h
  have h:=lo h hx4
  exact flz h
 exact j.ze h
instance:Ct2 prog 219 dt dt dt ZE:=⟨λ h=>Jm h⟩
def jM(x0:Tree)(x1:List Int)(x2:Str)(x3:Str)(v3:Str)(s16:Spec×(List Int)×Int):Option ((Spec×(List Int)×Int)⊕((Spec×(List Int))⊕Spec)):=
if(cmpI .lss s16.2.2 (x1.length:Int))=true then(Option.bind (α:=(Spec×(List Int))⊕((Spec×(List Int)×Int)⊕((Spec×(List Int))⊕Spec))) ((atI x1 s16.2.2).bind λ v22=>
Option.bind (α:=Bool×Bool) (some (true,true)) λ o26=>
(ZE x0 (⟨v22,v3,⟨[]⟩,true,0,[]⟩:File)).bind λ v31=>
if(o26.1&&cmpI .geq v31 0)=true then(some (.inr (.inr (.inr (⟨(2:Int),v31,([v22]:List Int)⟩:Spec)))))
else((ZE x0 (⟨v22,x2,x3,false,0,[]⟩:File)).bind λ v42=>
if(o26.2&&cmpI .geq v42 0)=true then(some (.inr (.inr (.inr (⟨(1:Int),v42,([]:List Int)⟩:Spec)))))
else((gO (o26.1 == true) (YE x0 v22 v3)).bind λ v53=>
if(o26.1&&v53)=true then((appO 8 s16.2.1 ([v22]:List Int)).bind λ v60=>
some (.inl (s16.1,v60)))
else(some (.inl (s16.1,s16.2.1)))))) (Sum.elim (λ b21=>
(i64 (s16.2.2+(1:Int))).bind λ v64=>
some (.inl (b21.1,b21.2,v64))) some))
else(some (.inr (.inl (s16.1,s16.2.1))))
def Z5(x0:Tree)(x1:List Int)(x2:Str)(x3:Str):Option Spec:=
(x9 x2 x3).bind λ v3=>
if(decide (v3=(⟨[]⟩:Str)))=true then((ja).bind λ v9=>
some v9)
else(Option.bind (α:=(Spec×(List Int))⊕Spec) (zR (λ s16=>jM x0 x1 x2 x3 v3 s16) (Wb,[],(0:Int))) (Sum.elim (λ b14=>
if(cmpI .gtr (b14.2.length:Int) 0)=true then(some (⟨(3:Int),(-1:Int),b14.2⟩:Spec))
else((ja).bind λ v75=>
some v75)) some))
theorem Q5{r:Spec}(h:Z5 x0 x1 x2 x3=some r):Fn prog 158 [dt x0,dt x1,dt x2,dt x3,dnilf] (dt r):=by
 unfold Z5 at h
 refine fnx (fn:=f158) 2 func158 Z Z (λ M w0 _ j=>Kc ?_)
 refine Ka ?_
 refine j.segA 1 [1,2,3,4,5] [] λ j=>?_
 refine j.alloc 1 Z Z kZ156 WH (by simp) [1,2,3,4,5] Z [] Z Z (λ b2 _ _ _ j=>Kb ?_)
 refine za ?_
 obtain⟨v3,p3,h⟩:=bsW h WL
 refine j.sqA [1,2,3,4,5,11] [(10,1)] (λ j=>Kc ?_)
 refine j.sqA [1,2,3,4,5,11,24] [(10,1)] λ j=>?_
 refine j.cs h (λ _ h=>?_) λ _ h=>?_
 ·refine Kc ?_
  refine Ka ?_
  obtain⟨v9,p9,h⟩:=bsW h WP
  refine j.segA 1 [25] [(10,1)] λ j=>?_
  refine j.store (sb:=10) 1 FldS.id Z Z Z Ys Z Z (tp Z) Z [] Z [] Z Z (λ _ _ j=>Kb ?_)
  refine za ?_
  refine wp_ret (zt ?_)
  exact j.ret_box Ys h
 refine wp_skip ?_
 refine za ?_
 refine j.sqB (sc Z (xR (α:=Int) (e:=3) Z)<|segA) [1,2,3,4,5,11] [(10,1),(12,0)] λ j=>?_
 have⟨o14,p14,k14⟩:=bs h
 refine zV (λ a w=>∃ b14,o14=.inl b14/\(∃ M1 Q R,Sx (Frm.of w0) 92 M M1 [oneB Q,oneB R] [] [(10,1,dbox R 0 b14.1),(12,0,dtip Q 3 b14.2)] a w)) ?_ ?_
 ·refine j.sqA [2,3,4,5,11,27,28,29] [(10,1),(12,0)] (λ j=>wp_block ?_)
  refine yV p14 (λ s16 a w=>∃ M1 Q R,Sx (Frm.of w0) 92 M M1 [oneB Q,oneB R] [(2,dt x2),(3,dt x3),(4,dnilf),(5,dptr x0),(11,dt v3),(27,dt x1),(28,dt (x1.length:Int)),(29,dt s16.2.2)] [(10,1,dbox R 0 s16.1),(12,0,dtip Q 3 s16.2.1)] a w) fx ?_
  rintro s16 x16 _ _ ⟨_,Q,R,j⟩ hs16 hx16
  have h:jM x0 x1 x2 x3 v3 s16=some x16:=hs16
  unfold jM at h
  refine j.sqA [2,3,4,5,11,27,28,29,30] [(10,1),(12,0)] (λ j=>Kc ?_)
  refine j.cs h (λ _ h=>?_) λ _ h=>?_
  ·refine wp_skip ?_
   refine za ?_
   have⟨o21,p21,k21⟩:=bs h
   refine zV (λ a w=>∃ b21,o21=.inl b21/\(∃ M1 Q R,Sx (Frm.of w0) 92 M M1 [oneB Q,oneB R] [(2,dt x2),(3,dt x3),(4,dnilf),(5,dptr x0),(11,dt v3),(27,dt x1),(28,dt (x1.length:Int)),(29,dt s16.2.2)] [(10,1,dbox R 0 b21.1),(12,0,dtip Q 3 b21.2)] a w)) ?_ ?_
   ·refine wp_block ?_
    have⟨v22,p22,h⟩:=bs p21
    refine j.sqA [2,3,4,5,11,14,27,28,29] [(10,1),(12,0)] λ j=>?_
    refine j.sqA [2,3,4,5,11,14,15,16,27,28,29] [(10,1),(12,0)] λ j=>?_
    have⟨o26,p26,k26⟩:=bs h
    refine zV (λ a w=>∃ M1 Q R,Sx (Frm.of w0) 92 M M1 [oneB Q,oneB R] [(2,dt x2),(3,dt x3),(4,dnilf),(5,dptr x0),(11,dt v3),(14,dt v22),(15,dt o26.1),(16,dt o26.2),(27,dt x1),(28,dt (x1.length:Int)),(29,dt s16.2.2)] [(10,1,dbox R 0 s16.1),(12,0,dtip Q 3 s16.2.1)] a w) ?_ ?_
    ·refine j.sqB (sp 1 (r:=by exact sc Z (xNeNil Z kU147 T cNil)<|.nil)) [2,3,4,5,11,14,15,16,27,28,29,34] [(10,1),(12,0)] λ j=>?_
     refine j.csF (c:=34) Z ?_
     refine wp_skip ?_
     refine za ?_
     obtain rfl:=Option.some.inj p26
     exact fx
    rintro _ _ ⟨_,Q,R,j⟩
    have h:=k26
    refine Kc ?_
    have⟨v31,p31,h⟩:=bs h
    refine j.sqB (sp 3 (r:=by exact sc Z (yt (parts:=[(0,.tmp 47),(1,.tmp 48),(3,.const (.bool true))]) (ns:=[1,1,1,1,1,1]) (zs:=zpFile) Z Z (λ w a hl=>FA ⟨by decide,Rep.len (α:=Int) (OpdR.cells T hl)⟩ (FA ⟨by decide,Rep.len (α:=Str) (OpdR.cells T hl)⟩ (FA ⟨by decide,Z⟩ FN))) (λ w a hl=>File.parts (x:=(⟨v22,v3,⟨[]⟩,true,0,[]⟩:File)) (OpdR.cells T hl) (OpdR.cells T hl) Zq (OpdR.cells cB hl) ⟨Z,trivial⟩ Y0))<|sc Z (oK (Jm p31))<|segA)) [2,3,4,5,11,14,15,16,18,27,28,29] [(10,1),(12,0)] (λ j=>?_)
    refine j.sqA [2,3,4,5,11,14,15,16,18,27,28,29,55] [(10,1),(12,0)] λ j=>?_
    refine j.cs h (λ _ h=>?_) λ _ h=>?_
    ·refine Kc ?_
     refine Ka ?_
     refine j.segB 4 (sp 2 (r:=by exact sc Z (xO (opds:=[.tmp 57]) Z Z Z (.cons T .nil))<|sc Z (yt (parts:=[(0,.const (.int .i64 2)),(1,.tmp 56),(2,.tmp 58)]) (ns:=[1,1,1]) (zs:=zcO) Z Z (λ w a hl=>FA ⟨by decide,Z⟩ (FA ⟨by decide,Rep.len (α:=Int) (OpdR.cells T hl)⟩ (FA ⟨by decide,Rep.len (α:=List Int) (OpdR.cells T hl)⟩ FN))) (λ w a hl=>Spec.parts (x:=(⟨(2:Int),v31,([v22]:List Int)⟩:Spec)) (OpdR.cells cI hl) (OpdR.cells T hl) (OpdR.cells T hl)))<|.nil)) [59] [(10,1)] (λ j=>?_)
     refine j.store (sb:=10) 1 FldS.id Z Z Z Ys Z Z (tp Z) Z [] Z [] Z Z (λ _ _ j=>Kb ?_)
     refine za ?_
     refine wp_ret (zt (zS (zt (zt (zS (zt ?_))))))
     have h:=jo h k21
     have h:=lo h hx16
     have h:=jo h k14
     exact j.ret_box Ys h
    refine wp_skip ?_
    refine za ?_
    refine Kc ?_
    have⟨v42,p42,h⟩:=bs h
    refine j.sqB (sp 4 (r:=by exact sc Z (yt (parts:=[(0,.tmp 61),(1,.tmp 62),(2,.tmp 63)]) (ns:=[1,1,1,1,1,1]) (zs:=zpFile) Z Z (λ w a hl=>FA ⟨by decide,Rep.len (α:=Int) (OpdR.cells T hl)⟩ (FA ⟨by decide,Rep.len (α:=Str) (OpdR.cells T hl)⟩ (FA ⟨by decide,Rep.len (α:=Str) (OpdR.cells T hl)⟩ FN))) (λ w a hl=>File.parts (x:=(⟨v22,x2,x3,false,0,[]⟩:File)) (OpdR.cells T hl) (OpdR.cells T hl) (OpdR.cells T hl) ⟨Z,trivial⟩ ⟨Z,trivial⟩ Y0))<|sc Z (oK (Jm p42))<|segA)) [2,3,4,5,11,14,15,16,19,27,28,29] [(10,1),(12,0)] (λ j=>?_)
    refine j.sqA [2,3,4,5,11,14,15,19,27,28,29,70] [(10,1),(12,0)] λ j=>?_
    refine j.cs h (λ _ h=>?_) λ _ h=>?_
    ·refine Kc ?_
     refine Ka ?_
     refine j.segB 3 (sp 1 (r:=by exact sc Z (xO (opds:=[]) (α:=Int) Z Z Z .nil)<|sc Z (yt (parts:=[(0,.const (.int .i64 1)),(1,.tmp 71),(2,.tmp 72)]) (ns:=[1,1,1]) (zs:=zcO) Z Z (λ w a hl=>FA ⟨by decide,Z⟩ (FA ⟨by decide,Rep.len (α:=Int) (OpdR.cells T hl)⟩ (FA ⟨by decide,Rep.len (α:=List Int) (OpdR.cells T hl)⟩ FN))) (λ w a hl=>Spec.parts (x:=(⟨(1:Int),v42,([]:List Int)⟩:Spec)) (OpdR.cells cI hl) (OpdR.cells T hl) (OpdR.cells T hl)))<|.nil)) [73] [(10,1)] (λ j=>?_)
     refine j.store (sb:=10) 1 FldS.id Z Z Z Ys Z Z (tp Z) Z [] Z [] Z Z (λ _ _ j=>Kb ?_)
     refine za ?_
     refine wp_ret (zt (zS (zt (zt (zS (zt ?_))))))
     have h:=jo h k21
     have h:=lo h hx16
     have h:=jo h k14
     exact j.ret_box Ys h
    refine wp_skip ?_
    refine za ?_
    have⟨v53,p53,h⟩:=bs h
    refine j.sqB (sp 5 (r:=by exact sg Z Z (λ hg=>oK (za0 (gh hg p53)))<|segA)) [2,3,4,5,11,14,27,28,29,80] [(10,1),(12,0)] λ j=>?_
    refine j.cs h (λ _ h=>?_) λ _ h=>?_
    ·refine Ka ?_
     refine j.segB 3 (sp 2 (r:=by exact sc Z (xO (opds:=[.tmp 82]) Z Z Z (.cons T .nil))<|.nil)) [2,3,4,5,11,27,28,29,83] [(10,1),(12,0),(81,0)] λ j=>?_
     have⟨v60,p60,h⟩:=bs h
     refine j.app 0 Z Z kE25 Z Z Z xq p60 [2,3,4,5,11,27,28,29] Z [10] Z Z λ g59 _ _ _ j=>?_
     refine j.segA 1 [2,3,4,5,11,27,28,29] [(10,1),(12,0)] (λ j=>Kb ?_)
     refine zy ?_
     refine za ?_
     exact fl h
    refine wp_skip ?_
    refine zy ?_
    refine za ?_
    exact fl h
   rintro _ _ ⟨b21,rfl,⟨_,Q,R,j⟩⟩
   have h:=jn k21
   have⟨v64,p64,h⟩:=bs h
   refine j.rgA [2,3,4,5,11,27,28,29] [(10,1),(12,0)] (λ j=>za ?_)
   exact fl h
  refine wp_exit (zI (zI (z7 ?_)))
  refine za ?_
  have h:=lo h hx16
  exact fl h
 rintro _ _ ⟨b14,rfl,⟨_,Q,R,j⟩⟩
 have h:=jn k14
 refine Kc ?_
 refine j.sqB (sp 1 (r:=by exact sc Z (op_lenT Z T)<|segA)) [88] [(10,1),(12,0)] λ j=>?_
 refine j.cs h (λ _ h=>?_) λ _ h=>?_
 ·have j:=j.frz 0 (s:=12) Z Z [88] Z [10] Z
  refine Kc ?_
  refine Ka ?_
  refine j.segB 2 (sp 1 (r:=by exact sc Z (yt (parts:=[(0,.const (.int .i64 3)),(1,.const (.int .i64 (-1))),(2,.tmp 89)]) (ns:=[1,1,1]) (zs:=zcO) Z Z (λ w a hl=>FA ⟨by decide,Z⟩ (FA ⟨by decide,Z⟩ (FA ⟨by decide,Rep.len (α:=List Int) (OpdR.cells T hl)⟩ FN))) (λ w a hl=>Spec.parts (x:=(⟨(3:Int),(-1:Int),b14.2⟩:Spec)) (OpdR.cells cI hl) (OpdR.cells cI hl) (OpdR.cells T hl)))<|.nil)) [90] [(10,1)] (λ j=>?_)
  refine j.store (sb:=10) 1 FldS.id Z Z Z Ys Z Z (tp Z) Z [] Z [] Z Z (λ _ _ j=>Kb ?_)
  refine za ?_
  refine wp_ret (zt ?_)
  exact j.ret_box Ys h
 refine wp_skip ?_
 refine za ?_
 refine Kc ?_
 refine Ka ?_
 obtain⟨v75,p75,h⟩:=bsW h WP
 refine j.segA 1 [91] [(10,1)] λ j=>?_
 refine j.store (sb:=10) 1 FldS.id Z Z Z Ys Z Z (tp Z) Z [] Z [] Z Z (λ _ _ j=>Kb ?_)
 refine za ?_
 refine wp_ret ?_
 exact j.ret_box Ys h
def jN(x0:Tree)(v8:List Str)(s11:Spec×Spec×Str×Int):Option ((Spec×Spec×Str×Int)⊕((Spec×Spec)⊕Spec)):=
if(cmpI .lss s11.2.2.2 (v8.length:Int))=true then((atI v8 s11.2.2.2).bind λ v16=>
if(cmpI .eql s11.2.1.kind 0||cmpI .eql s11.2.1.kind 1)=true then((ja).bind λ v22=>
some (.inr (.inr v22)))
else((Z5 x0 s11.2.1.roots s11.2.2.1 v16).bind λ v28=>
(x9 s11.2.2.1 v16).bind λ v32=>
(i64 (s11.2.2.2+(1:Int))).bind λ v35=>
some (.inl (s11.1,v28,v32,v35))))
else(some (.inr (.inl (s11.1,s11.2.1))))
def YM(x0:Tree)(x1:List Int)(x2:Str):Option Spec:=
Option.bind (α:=(Spec×Spec)⊕Spec) ((jL x2).bind λ v8=>
zR (λ s11=>jN x0 v8 s11) (Wb,(⟨(3:Int),(-1:Int),x1⟩:Spec),(⟨[]⟩:Str),(0:Int))) (Sum.elim (λ b7=>
some b7.2) some)
theorem zdG{r:Spec}(h:YM x0 x1 x2=some r):Fn prog 206 [dt x0,dt x1,dt x2,dnilf] (dt r):=by
 refine fq1 2 func206 λ M w0 _ j=>?_
 refine Ka ?_
 refine j.zg 1 λ j=>?_
 refine j.alloc 0 Z Z kZ156 WH (gl Z) [1,2,3,4] Z [] Z Z (λ b2 _ _ _ j=>Kb ?_)
 refine Ka ?_
 refine j.zh 2 [(8,0)] (λ j=>?_) (hs:=sZ 1 (r:=by exact sc Z (yt (parts:=[(0,.const (.int .i64 3)),(1,.const (.int .i64 (-1))),(2,.tmp 13)]) (ns:=[1,1,1]) (zs:=zcO) Z Z (λ w a hl=>FA ⟨by decide,Z⟩ (FA ⟨by decide,Z⟩ (FA ⟨by decide,Rep.len (α:=List Int) (OpdR.cells T hl)⟩ FN))) (λ w a hl=>Spec.parts (x:=(⟨(3:Int),(-1:Int),x1⟩:Spec)) (OpdR.cells cI hl) (OpdR.cells cI hl) (OpdR.cells T hl)))<|.nil))
 refine j.alloc 1 Z Z kZ156 WH (gl Z) [2,3,4,14] Z [8] Z Z λ b4 _ _ _ j=>?_
 refine j.store (sb:=9) 1 FldS.id Z Z Z Ys Z Z (tp Z) Z [2,3,4] Z [8] Z Z (λ _ _ j=>Kb ?_)
 refine j.zo [(8,0),(9,1)] (λ j=>za ?_)
 refine j.jbq 2 [] (λ _=>[]) (λ b7 q=>[(8,0,dbox (q 0) 0 b7.1),(9,1,dbox (q 1) 0 b7.2)]) h (λ o7 p7 k7=>?_) λ b7 q7 _ _ _ j h=>?_
 ·obtain⟨v8,p8,h⟩:=bsW p7 Xj
  refine j.zo [(8,0),(9,1)] λ j=>?_
  refine j.lpq 2 [3,4,16,17] (λ s11=>[(10,dt s11.2.2.1),(18,dt s11.2.2.2)]) (λ s11 q=>[(8,0,dbox (q 0) 0 s11.1),(9,1,dbox (q 1) 0 s11.2.1)]) h λ s11 x11 q11 _ _ _ j h hx11=>?_
  refine j.zd [(8,0),(9,1)] h (λ j h=>?_) λ j h=>?_
  ·have⟨v16,p16,h⟩:=bs h
   refine j.zo [(8,0),(9,1)] λ j=>?_
   refine j.zd [(8,0),(9,1)] h (λ j h=>?_) (λ j h=>?_) (hs:=sc Z (yf Spec.fld0 Z T)<|
     sc Z (yb Z T)<|
     sc Z (oCI Z T cI)<|
     sc Z (oM Z T)<|
     sg Z Z (λ hg=>yf Spec.fld0 Z T)<|
     sg Z Z (λ hg=>yb Z V)<|
     sg Z Z (λ hg=>oCI Z V cI)<|
     sc Z (ZO Z T T)<|.nil)
   ·refine Ka ?_
    have⟨v22,p22,h⟩:=bs h
    refine j.zh 1 [(8,0)] λ j=>?_
    refine j.store (sb:=8) 0 FldS.id Z Z Z Ys Z Z (tp Z) Z [] Z [] Z Z (λ _ _ j=>Kb ?_)
    have h:=lo h hx11
    have h:=jo h k7
    exact j.ret_box Ys h
   refine Ka ?_
   have⟨v28,p28,h⟩:=bs h
   refine j.zh 7 [(8,0),(9,1)] (λ j=>?_) (hs:=sZ 1 (r:=by exact sc Z (yf Spec.fld2 Z T)<|sc Z (yb Z T)<|sZ 3 (r:=by exact sc Z (oK (Q5 p28))<|.nil)))
   refine j.store (sb:=9) 1 FldS.id Z Z Z Ys Z Z (tp Z) Z [3,4,10,12,16,17,18] Z [8] Z Z (λ _ _ j=>Kb ?_)
   have⟨v32,p32,h⟩:=bs h
   refine j.zo [(8,0),(9,1)] λ j=>?_
   have⟨v35,p35,h⟩:=bs h
   exact j.zn [(8,0),(9,1)] h
  have h:=lo h hx11
  exact flz h
 refine Ka ?_
 refine j.zh 1 [(8,0)] λ j=>?_
 refine j.store (sb:=8) 0 FldS.id Z Z Z Ys Z Z (tp Z) Z [] Z [] Z Z (λ _ _ j=>Kb ?_)
 exact j.ret_box Ys h
def jl(x0:Tree)(x1:List Int)(x2:Str):Option Spec:=
(xb x0).bind λ v3=>
(gO ((!v3) == false) (wP x1)).bind λ v4=>
(gO (((!v3)||(!v4)) == false) (zZ x2)).bind λ v5=>
if(((!v3)||(!v4))||(!v5))=true then((ja).bind λ v12=>
some v12)
else((YM x0 x1 x2).bind λ v16=>
some v16)
theorem X9{r:Spec}(h:jl x0 x1 x2=some r):Fn prog 134 [dt x0,dt x1,dt x2] (dt r):=by
 refine fq1 1 func134 λ M _ _ j=>?_
 refine Ka ?_
 refine j.zg 1 λ j=>?_
 refine j.alloc 0 Z Z kZ156 WH (gl Z) [1,2,3] Z [] Z Z (λ b2 _ _ _ j=>Kb ?_)
 have⟨v3,p3,v4,p4,h⟩:=Kg h
 have⟨v5,p5,h⟩:=bs h
 refine j.zd [(6,0)] h (λ j h=>?_) (λ j h=>?_) (hs:=sZ 1 (r:=by exact sc Z (oK (wO p3))<|sZ 3 (r:=by exact sg Z Z (λ hg=>oK (Yi (gh hg p4)))<|sZ 4 (r:=by exact sg Z Z (λ hg=>oK (xa (gh hg p5)))<|segZ))))
 ·refine Ka ?_
  have⟨v12,p12,h⟩:=bs h
  refine j.zh 1 [(6,0)] λ j=>?_
  refine j.store (sb:=6) 0 FldS.id Z Z Z Ys Z Z (tp Z) Z [] Z [] Z Z (λ _ _ j=>Kb ?_)
  exact j.ret_box Ys h
 refine Ka ?_
 have⟨v16,p16,h⟩:=bs h
 refine j.zh 4 [(6,0)] (λ j=>?_) (hs:=sZ 3 (r:=by exact sc Z (zz (l:=[.tmp 21,.tmp 22,.tmp 23,.const .nilFunc]) Z (.cons T (.cons T (.cons T (.cons cNil .nil)))) (zdG p16))<|.nil))
 refine j.store (sb:=6) 0 FldS.id Z Z Z Ys Z Z (tp Z) Z [] Z [] Z Z (λ _ _ j=>Kb ?_)
 exact j.ret_box Ys h
instance:Ct3 prog 134 dt dt dt dt jl:=⟨λ h=>X9 h⟩
def Z6(x0:Tree)(x1:List Int)(x2:Str):Option Bool:=
(jl x0 x1 x2).bind λ v2=>
some (cmpI .neq v2.kind 0)
theorem zd3{r:Bool}(h:Z6 x0 x1 x2=some r):Fn prog 203 [dt x0,dt x1,dt x2] (dt r):=by
 refine fq1 0 func203 λ M _ _ j=>?_
 refine j.z1 λ j=>?_
 have⟨v2,p2,h⟩:=bs h
 exact j.ze h (hs:=sZ 3 (r:=by exact sc Z (oK (X9 p2))<|sc Z (Wr Spec.fld0 Z Z zb8 T)<|segZ))
instance:Ct3 prog 203 dt dt dt dt Z6:=⟨λ h=>zd3 h⟩
theorem kN278:fnB prog 278=true:=by kernel_rfl
theorem kN279:fnB prog 279=true:=by kernel_rfl
theorem kN239:fnB prog 239=true:=by kernel_rfl
theorem kN256:fnB prog 256=true:=by kernel_rfl
def ZF(x0:List Str):Option (List Str):=
(wt x0).bind λ v4=>
(xE v4).bind λ v8=>
(appO 16 [] v8).bind λ v11=>
some v11
theorem YF{x0:List Str}(h:ZF x0=some r):zbj prog 239 9 x0 [] r:=by
 refine fnxT (fn:=f239) 1 2 func239 Z (oD Z) Z (λ M g _ _ j=>wqw ?_)
 refine j.zo [(0,1)] (λ j=>?_) (hs:=sc Z (oA Z (jj (α:=Str) (e:=9)))<|.nil)
 refine Ka ?_
 refine j.zh 1 [(0,1),(3,1)] λ j=>?_
 have⟨v4,p4,h⟩:=bs h
 refine j.inpl (sb:=0) 1 Z Z kN278 Z Z Z (Wj p4) [] Z [] Z Z ⟨Z,Z,by decide⟩ (λ _ _ _ j=>Kb ?_)
 refine Ka ?_
 refine j.zh 2 [(5,0),(6,1)] (λ j=>?_) (hs:=sc Z (xR (α:=Str) (e:=9) Z)<|segZ)
 have⟨v8,p8,h⟩:=bs h
 refine j.take (l:=[]) 1 Z Z kN279 Z Z .nil (XA p8) [] Z [5] Z Z λ g7 _ _ _ j=>?_
 have⟨v11,p11,h⟩:=bs h
 refine j.app 0 Z Z kE64 Z Z Z row_tip p11 [] Z [] Z Z λ g10 _ _ _ j=>?_
 refine j.zh 1 [(2,0)] (λ j=>Kb ?_)
 exact j.ret_take 0 Z Z (λ _ h=>h) h
def wl(x0:Str)(v4:List Str)(s7:(List Str)×Int):Option (((List Str)×Int)⊕(List Str)):=
if(cmpI .lss s7.2 (v4.length:Int))=true then((jL x0).bind λ v13=>
(i64 (s7.2+(1:Int))).bind λ v14=>
(QI v13 v14).bind λ v15=>
(yX v15 (⟨[46]⟩:Str)).bind λ v16=>
(appO 16 s7.1 ([v16]:List Str)).bind λ v23=>
(i64 (s7.2+(1:Int))).bind λ v26=>
some (.inl (v23,v26)))
else(some (.inr s7.1))
def ZP(x0:Str):Option (List Str):=
Option.bind (α:=(List Str)) ((jL x0).bind λ v4=>
zR (λ s7=>wl x0 v4 s7) ([],(0:Int))) λ o3=>
some o3
theorem zb9{x0:Str}(h:ZP x0=some r):FnOwn prog 294 [dt x0] 9 r:=by
 refine fqO 1 func294 λ M w0 _ j=>?_
 refine j.z1 (λ j=>?_) (hs:=sc Z (oA Z (jj (α:=Str) (e:=9)))<|.nil)
 refine j.zo [(3,0)] (λ j=>?_) (hs:=sc Z (xR (α:=Str) (e:=9) Z)<|segZ)
 refine za ?_
 refine j.jmq 1 [] (λ _=>[]) (λ o3 q=>[(3,0,dtip (q 0) 9 o3)]) h (λ o3 p3=>?_) λ o3 q3 _ _ _ j h=>?_
 ·obtain⟨v4,p4,h⟩:=bsW p3 Xj
  refine j.zo [(3,0)] λ j=>?_
  refine j.lpq 1 [0,8] (λ s7=>[(9,dt s7.2)]) (λ s7 q=>[(3,0,dtip (q 0) 9 s7.1)]) h λ s7 x7 q7 _ _ _ j h hx7=>?_
  refine j.zd [(3,0)] h (λ j h=>?_) λ j h=>?_
  ·refine j.zo [(3,0)] (λ j=>Ka ?_)
   have⟨v13,p13,v14,p14,h⟩:=Kg h
   have⟨v15,p15,v16,p16,h⟩:=Kg h
   refine j.zh 8 [(3,0),(12,0)] (λ j=>?_) (hs:=sZ 2 (r:=by exact sc Z (oK (Xj p13))<|sZ 2 (r:=by exact sc Z (xSliH Z T T p15)<|sc Z (oK (ZZ p16))<|sc Z (xO (opds:=[.tmp 18]) Z Z Z (.cons T .nil))<|.nil)))
   have⟨v23,p23,h⟩:=bs h
   refine j.app 0 Z Z kE64 Z Z Z xq p23 [0,8,9] Z [] Z Z λ g22 _ _ _ j=>?_
   refine j.zh 1 [(3,0)] (λ j=>Kb ?_)
   have⟨v26,p26,h⟩:=bs h
   exact j.zn [(3,0)] h
  have h:=lo h hx7
  cases h
  exact fz
 exact j.zl 0 h
def qM(x0:Tree)(s10:(List Str)×Int):Option (((List Str)×Int)⊕(List Str)):=
if(cmpI .lss s10.2 (x0.files.length:Int))=true then((atI x0.files s10.2).bind λ v15=>
(Zt v15).bind λ v20=>
(appO 16 s10.1 ([v20]:List Str)).bind λ v24=>
(i64 (s10.2+(1:Int))).bind λ v27=>
some (.inl (v24,v27)))
else(some (.inr s10.1))
def Yk(x0:Tree):Option (List Str):=
Option.bind (α:=(List Str)) ((xb x0).bind λ v4=>
if v4=true then(zR (λ s10=>qM x0 s10) ([],(0:Int)))
else(some [])) λ o3=>
(ZF o3).bind λ v34=>
some v34
theorem XB(h:Yk x0=some r):FnOwn prog 256 [dt x0] 9 r:=by
 refine fqO 2 func256 λ M w0 _ j=>?_
 refine j.z1 (λ j=>?_) (hs:=sZ 1 (r:=by exact sc Z (oA Z (jj (α:=Str) (e:=9)))<|.nil))
 refine j.zo [(3,0)] (λ j=>?_) (hs:=sc Z (xR (α:=Str) (e:=9) Z)<|segZ)
 refine za ?_
 refine j.jmq 2 [] (λ _=>[]) (λ o3 q=>[(3,0,dtip (q 0) 9 o3)]) h (λ o3 p3=>?_) λ o3 q3 _ _ _ j h=>?_
 ·obtain⟨v4,p4,h⟩:=bsW p3 wO
  refine j.zd [(3,0)] h (λ j h=>?_) λ j h=>?_
  ·refine j.zo [(3,0)] λ j=>?_
   refine j.lpq 2 [10,11] (λ s10=>[(12,dt s10.2)]) (λ s10 q=>[(3,0,dtip (q 0) 9 s10.1)]) h λ s10 x10 q10 _ _ _ j h hx10=>?_
   refine j.zd [(3,0)] h (λ j h=>?_) λ j h=>?_
   ·refine Ka ?_
    have⟨v15,p15,h⟩:=bs h
    refine j.zh 2 [(3,0)] λ j=>?_
    refine j.alloc 1 Z Z kZ121 zbn (gl Z) [10,11,12,15] Z [3] Z Z λ b18 _ _ _ j=>?_
    refine j.store (sb:=5) 1 FldS.id Z Z Z zaZ Z Z (tp Z) Z [10,11,12] Z [3] Z Z (λ _ _ j=>Kb ?_)
    refine Ka ?_
    have⟨v20,p20,h⟩:=bs h
    refine j.zh 4 [(3,0),(16,0)] λ j=>?_
    have⟨v24,p24,h⟩:=bs h
    refine j.app 0 Z Z kE64 Z Z Z xq p24 [10,11,12] Z [] Z Z λ g23 _ _ _ j=>?_
    refine j.zh 1 [(3,0)] (λ j=>Kb ?_)
    have⟨v27,p27,h⟩:=bs h
    exact j.zn [(3,0)] h
   have h:=lo h hx10
   cases h
   exact fz
  cases h
  exact fz
 refine Ka ?_
 refine j.zh 1 [(22,0)] λ j=>?_
 have⟨v34,p34,h⟩:=bs h
 refine j.take (l:=[]) 0 Z Z kN239 Z Z .nil (YF p34) [] Z [] Z Z λ g33 _ _ _ j=>?_
 refine j.zh 1 [(2,0)] (λ j=>Kb ?_)
 exact j.ret_own 0 h
def qh(x0:Tree)(s10:(List Str)×Int):Option (((List Str)×Int)⊕(List Str)):=
if(cmpI .lss s10.2 (x0.files.length:Int))=true then((atI x0.files s10.2).bind λ v15=>
(ZP v15.pkg).bind λ v20=>
(appO 16 s10.1 v20).bind λ v24=>
(i64 (s10.2+(1:Int))).bind λ v27=>
some (.inl (v24,v27)))
else(some (.inr s10.1))
def ZQ(x0:Tree):Option (List Str):=
Option.bind (α:=(List Str)) ((xb x0).bind λ v4=>
if v4=true then(zR (λ s10=>qh x0 s10) ([],(0:Int)))
else(some [])) λ o3=>
(ZF o3).bind λ v34=>
some v34
theorem Xl(h:ZQ x0=some r):FnOwn prog 257 [dt x0] 9 r:=by
 refine fqO 2 func257 λ M w0 _ j=>?_
 refine j.z1 (λ j=>?_) (hs:=sZ 1 (r:=by exact sc Z (oA Z (jj (α:=Str) (e:=9)))<|.nil))
 refine j.zo [(3,0)] (λ j=>?_) (hs:=sc Z (xR (α:=Str) (e:=9) Z)<|segZ)
 refine za ?_
 refine j.jmq 2 [] (λ _=>[]) (λ o3 q=>[(3,0,dtip (q 0) 9 o3)]) h (λ o3 p3=>?_) λ o3 q3 _ _ _ j h=>?_
 ·obtain⟨v4,p4,h⟩:=bsW p3 wO
  refine j.zd [(3,0)] h (λ j h=>?_) λ j h=>?_
  ·refine j.zo [(3,0)] λ j=>?_
   refine j.lpq 2 [10,11] (λ s10=>[(12,dt s10.2)]) (λ s10 q=>[(3,0,dtip (q 0) 9 s10.1)]) h λ s10 x10 q10 _ _ _ j h hx10=>?_
   refine j.zd [(3,0)] h (λ j h=>?_) λ j h=>?_
   ·refine Ka ?_
    have⟨v15,p15,h⟩:=bs h
    refine j.zh 2 [(3,0)] λ j=>?_
    refine j.alloc 1 Z Z kZ121 zbn (gl Z) [10,11,12,15] Z [3] Z Z λ b18 _ _ _ j=>?_
    refine j.store (sb:=5) 1 FldS.id Z Z Z zaZ Z Z (tp Z) Z [10,11,12] Z [3] Z Z (λ _ _ j=>Kb ?_)
    refine Ka ?_
    have⟨v20,p20,h⟩:=bs h
    refine j.zh 4 [(3,0),(16,0)] (λ j=>?_) (hs:=sZ 1 (r:=by exact sc Z (yf File.fld1 Z T)<|sc Z (yb Z T)<|sc Z (zz (l:=[.tmp 18]) Z (.cons T .nil) ((zb9 p20)).fn)<|.nil))
    have⟨v24,p24,h⟩:=bs h
    refine j.app 0 Z Z kE64 Z Z Z xq p24 [10,11,12] Z [] Z Z λ g23 _ _ _ j=>?_
    refine j.zh 1 [(3,0)] (λ j=>Kb ?_)
    have⟨v27,p27,h⟩:=bs h
    exact j.zn [(3,0)] h
   have h:=lo h hx10
   cases h
   exact fz
  cases h
  exact fz
 refine Ka ?_
 refine j.zh 1 [(22,0)] λ j=>?_
 have⟨v34,p34,h⟩:=bs h
 refine j.take (l:=[]) 0 Z Z kN239 Z Z .nil (YF p34) [] Z [] Z Z λ g33 _ _ _ j=>?_
 refine j.zh 1 [(2,0)] (λ j=>Kb ?_)
 exact j.ret_own 0 h
def YN(x0:Tree):Option (List Str):=
(Yk x0).bind λ v4=>
(ZQ x0).bind λ v7=>
(appO 16 v4 v7).bind λ v10=>
(ZF v10).bind λ v13=>
some v13
theorem zdH(h:YN x0=some r):FnOwn prog 202 [dt x0] 9 r:=by
 refine fqO 1 func202 λ M _ _ y=>?_
 refine y.z1 (λ y=>?_) (hs:=sZ 1 (r:=by exact sc Z (oA Z (jj (α:=Str) (e:=9)))<|.nil))
 have⟨v4,p4,v7,p7,h⟩:=Kg h
 have⟨v10,p10,v13,p13,h⟩:=Kg h
 refine y.any zG λ _ y=>?_
 refine an2 (i:=0) (j:=2) Z Z ?_ ?_
 ·refine y.zg 1 (λ y=>anN ?_)
  refine an2 (i:=1) (j:=2) Z Z ?_ ?_
  ·refine y.own (l:=[.tmp 3]) 0 Z Z kN256 (.cons T .nil) (XB p4) (gl Z) [1] Z [] Z Z (λ g22 _ _ _ y=>anN ?_)
   refine an1 (i:=2) Z ?_
   refine y.zh 1 [(4,0)] (λ y=>anN ?_)
   refine an1 (i:=3) Z ?_
   refine y.zh 1 [(4,0)] (λ y=>?_) (hs:=sc Z (zz (l:=[.tmp 5]) Z (.cons T .nil) ((Xl p7)).fn)<|.nil)
   refine anN ?_
   refine an1 (i:=4) Z ?_
   refine y.app 0 Z Z kE64 Z Z Z xq p10 [] Z [] Z Z (λ g25 _ _ _ y=>anN ?_)
   refine an1 (i:=5) Z ?_
   refine y.take (l:=[]) 0 Z Z kN239 Z Z .nil (YF p13) [] Z [] Z Z (λ g26 _ _ _ y=>anN ?_)
   refine an1 (i:=6) Z ?_
   refine y.zh 1 [(2,0)] (λ y=>anN ?_)
   refine an0 ?_
   exact y.ret_own 0 h
  ·refine y.zg 1 (λ y=>anN ?_)
   refine an1 (i:=1) Z ?_
   refine y.own (l:=[.tmp 3]) 0 Z Z kN256 (.cons T .nil) (XB p4) (gl Z) [5] Z [] Z Z (λ g29 _ _ _ y=>anN ?_)
   refine an1 (i:=3) Z ?_
   refine y.zh 1 [(4,0)] (λ y=>?_) (hs:=sc Z (zz (l:=[.tmp 5]) Z (.cons T .nil) ((Xl p7)).fn)<|.nil)
   refine anN ?_
   refine an1 (i:=4) Z ?_
   refine y.app 0 Z Z kE64 Z Z Z xq p10 [] Z [] Z Z (λ g31 _ _ _ y=>anN ?_)
   refine an1 (i:=5) Z ?_
   refine y.take (l:=[]) 0 Z Z kN239 Z Z .nil (YF p13) [] Z [] Z Z (λ g32 _ _ _ y=>anN ?_)
   refine an1 (i:=6) Z ?_
   refine y.zh 1 [(2,0)] (λ y=>anN ?_)
   refine an0 ?_
   exact y.ret_own 0 h
 ·refine y.zg 1 (λ y=>anN ?_)
  refine an1 (i:=0) Z ?_
  refine y.zg 1 (λ y=>anN ?_)
  refine an1 (i:=1) Z ?_
  refine y.own (l:=[.tmp 3]) 0 Z Z kN256 (.cons T .nil) (XB p4) (gl Z) [5] Z [] Z Z (λ g36 _ _ _ y=>anN ?_)
  refine an1 (i:=3) Z ?_
  refine y.zh 1 [(4,0)] (λ y=>?_) (hs:=sc Z (zz (l:=[.tmp 5]) Z (.cons T .nil) ((Xl p7)).fn)<|.nil)
  refine anN ?_
  refine an1 (i:=4) Z ?_
  refine y.app 0 Z Z kE64 Z Z Z xq p10 [] Z [] Z Z (λ g38 _ _ _ y=>anN ?_)
  refine an1 (i:=5) Z ?_
  refine y.take (l:=[]) 0 Z Z kN239 Z Z .nil (YF p13) [] Z [] Z Z (λ g39 _ _ _ y=>anN ?_)
  refine an1 (i:=6) Z ?_
  refine y.zh 1 [(2,0)] (λ y=>anN ?_)
  refine an0 ?_
  exact y.ret_own 0 h
def wm(x0:Tree)(x1:List Int)(v4:List Str)(s7:(List Str)×Int):Option (((List Str)×Int)⊕(List Str)):=
if(cmpI .lss s7.2 (v4.length:Int))=true then(Option.bind (α:=(List Str)) ((atI v4 s7.2).bind λ v13=>
(Z6 x0 x1 v13).bind λ v16=>
if v16=true then((appO 16 s7.1 ([v13]:List Str)).bind λ v23=>
some v23)
else(some s7.1)) λ o12=>
(i64 (s7.2+(1:Int))).bind λ v27=>
some (.inl (o12,v27)))
else(some (.inr s7.1))
def ZR(x0:Tree)(x1:List Int):Option (List Str):=
Option.bind (α:=(List Str)) ((YN x0).bind λ v4=>
zR (λ s7=>wm x0 x1 v4 s7) ([],(0:Int))) λ o3=>
some o3
theorem zca(h:ZR x0 x1=some r):FnOwn prog 131 [dt x0,dt x1] 9 r:=by
 refine fqO 1 func131 λ M w0 _ j=>?_
 refine j.z1 (λ j=>?_) (hs:=sZ 1 (r:=by exact sc Z (oA Z (jj (α:=Str) (e:=9)))<|.nil))
 refine j.zo [(5,0)] (λ j=>?_) (hs:=sc Z (xR (α:=Str) (e:=9) Z)<|segZ)
 refine za ?_
 refine j.jmq 1 [] (λ _=>[]) (λ o3 q=>[(5,0,dtip (q 0) 9 o3)]) h (λ o3 p3=>?_) λ o3 q3 _ _ _ j h=>?_
 ·have⟨v4,p4,h⟩:=bs p3
  refine j.zo [(5,0)] (λ j=>?_) (hs:=sZ 1 (r:=by exact sc Z (zz (l:=[.tmp 9]) Z (.cons T .nil) ((zdH p4)).fn)<|segZ))
  refine j.lpq 1 [1,2,10,11] (λ s7=>[(12,dt s7.2)]) (λ s7 q=>[(5,0,dtip (q 0) 9 s7.1)]) h λ s7 x7 q7 _ _ _ j h hx7=>?_
  refine j.zd [(5,0)] h (λ j h=>?_) λ j h=>?_
  ·refine wqk ?_
   refine za ?_
   refine j.jmq 1 [1,2,10,11,12] (λ _=>[]) (λ o12 q=>[(5,0,dtip (q 0) 9 o12)]) h (λ o12 p12=>?_) λ o12 q12 _ _ _ j h=>?_
   ·have⟨v13,p13,h⟩:=bs p12
    refine j.zo [(5,0)] λ j=>?_
    have⟨v16,p16,h⟩:=bs h
    refine j.zd [(5,0)] h (λ j h=>?_) λ j h=>?_
    ·refine Ka ?_
     refine j.zh 3 [(5,0),(20,0)] λ j=>?_
     have⟨v23,p23,h⟩:=bs h
     refine j.app 0 Z Z kE64 Z Z Z xq p23 [1,2,10,11,12] Z [] Z Z λ g22 _ _ _ j=>?_
     refine j.zh 1 [(5,0)] (λ j=>Kb ?_)
     cases h
     exact fz
    cases h
    exact fz
   have⟨v27,p27,h⟩:=bs h
   exact j.zn [(5,0)] h
  have h:=lo h hx7
  cases h
  exact fz
 exact j.zl 0 h
end Go.Proofs.YtbbfcjifihknnaaGreatDoor
