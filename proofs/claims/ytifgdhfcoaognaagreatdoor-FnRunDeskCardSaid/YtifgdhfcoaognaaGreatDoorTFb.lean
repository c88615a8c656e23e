import Derived.Test.YtifgdhfcoaognaaGreatDoorTO
import Derived.Test.YtifgdhfcoaognaaGreatDoorTB
import Derived.Test.YtifgdhfcoaognaaGreatDoorTF
namespace Go.Proofs.YtifgdhfcoaognaaGreatDoor
open Go.RowKit Tryz
attribute [local irreducible] OpRel OpdR
set_option maxRecDepth 10000
set_option maxHeartbeats 1600000
variable{x1:List Int}{r:List Str}{x2 x3:Str}{x0:Tree}
theorem zc7:∀ {M:Nat->Prop} {look:Nat->Option Dt} {o:Oper} {q0:Operand} {y0:Int},o.op=.build 74 #[(0,q0)]->OpdR M look q0 (dt y0)->OpRel prog M look o (dt (⟨y0,⟨[]⟩,0,⟨[]⟩,0⟩:Stmt)):=@λ _ _ _ q0 y0 ho h0=>yp (parts:=[(0,q0)]) (ns:=[1,1,1,1,1]) (zs:=zbw) Z ho (λ w a hl=>FA ⟨(by decide:0<5),Rep.len (α:=Int) (OpdR.cells h0 hl)⟩ FN) (λ w a hl=>Stmt.parts (x:=(⟨y0,⟨[]⟩,0,⟨[]⟩,0⟩:Stmt)) (OpdR.cells h0 hl) qt ⟨Z,trivial⟩ qt ⟨Z,trivial⟩)
theorem kZ74:wW prog 74=some zcStmt:=by kernel_rfl
theorem kT74:tyB prog 74 true 5=true:=by kernel_rfl
theorem kF74_4:fldB prog 74 4 4=true:=by kernel_rfl
theorem kF74_3:fldB prog 74 3 3=true:=by kernel_rfl
def YD(x0:Stmt):Option Bool:=
Option.bind (α:=Bool) (if cmpI .eql x0.kind 0 then(some (cmpI .eql x0.kind 0))
else(some (cmpI .eql x0.kind 2))) λ o8=>
if o8=true then((gO (decide (x0={ (⟨x0.kind,⟨[]⟩,0,⟨[]⟩,0⟩:Stmt) with module:=x0.module }) == true) (z7 x0.module)).bind λ v19=>
some (decide (x0={ (⟨x0.kind,⟨[]⟩,0,⟨[]⟩,0⟩:Stmt) with module:=x0.module })&&v19))
else(if cmpI .eql x0.kind 1 then((gO (cmpI .eql x0.value 0 == true) (xe x0.level (0:Int) (3:Int))).bind λ v25=>
(gO ((cmpI .eql x0.value 0&&v25) == true) (xf x0.name)).bind λ v26=>
(gO (((cmpI .eql x0.value 0&&v25)&&v26) == true) (z7 x0.module)).bind λ v27=>
some (((cmpI .eql x0.value 0&&v25)&&v26)&&(v27||(decide (x0.module=(⟨[]⟩:Str))&&cmpI .geq x0.level 1))))
else(if cmpI .eql x0.kind 3 then((gO (decide (x0={ { (⟨x0.kind,⟨[]⟩,0,⟨[]⟩,0⟩:Stmt) with name:=x0.name } with value:=x0.value }) == true) (xf x0.name)).bind λ v54=>
(gO ((decide (x0={ { (⟨x0.kind,⟨[]⟩,0,⟨[]⟩,0⟩:Stmt) with name:=x0.name } with value:=x0.value })&&v54) == true) (xe x0.value (0:Int) (99:Int))).bind λ v55=>
some ((decide (x0={ { (⟨x0.kind,⟨[]⟩,0,⟨[]⟩,0⟩:Stmt) with name:=x0.name } with value:=x0.value })&&v54)&&v55))
else(if cmpI .eql x0.kind 4 then((gO (decide (x0={ (⟨x0.kind,⟨[]⟩,0,⟨[]⟩,0⟩:Stmt) with name:=x0.name }) == true) (xf x0.name)).bind λ v65=>
some (decide (x0={ (⟨x0.kind,⟨[]⟩,0,⟨[]⟩,0⟩:Stmt) with name:=x0.name })&&v65))
else(if cmpI .eql x0.kind 5 then(some (decide (x0=(⟨x0.kind,⟨[]⟩,0,⟨[]⟩,0⟩:Stmt))))
else(some false)))))
theorem impl_stmtOk_w{x0:Stmt}{r:Bool}(h:YD x0=some r):Fn prog 131 [dt x0] (dt r):=by
 refine fq1 1 func131 λ M w0 _ j=>?_
 refine j.z1 (λ j=>Ka ?_)
 refine j.zg 3 (λ j=>?_) (hs:=sZ 2 (r:=by exact sc Z (zc7 Z T)<|.nil))
 refine j.alA 0 QY [1,6] [] λ b4 j=>?_
 refine j.stA 3 0 FldS.id (tp Z) [1] [] (λ j=>Kb ?_)
 refine j.zo [(3,0)] (λ j=>za ?_)
 refine wqb ?_
 refine j.jmq 1 [1,8] (λ o8=>[(9,dt o8)]) (λ _ q=>[(3,0,dbox (q 0) 0 (⟨x0.kind,⟨[]⟩,0,⟨[]⟩,0⟩:Stmt))]) h (λ o8 p8=>?_) λ o8 q8 _ _ _ j h=>?_
 ·refine j.zd [(3,0)] p8 (λ j h=>?_) λ j h=>?_
  ·cases h
   exact fz
  refine j.zo [(3,0)] λ j=>?_
  cases h
  exact fz
 refine j.cq h (λ h=>?_) λ h=>?_
 ·refine Ka ?_
  refine j.zh 3 [(3,0),(14,0)] λ j=>?_
  refine j.stA 3 0 Stmt.set1 (tp Z) [1] [] (λ j=>Kb ?_)
  have⟨v19,p19,h⟩:=bs h
  exact j.ze h (hs:=sZ 2 (r:=by exact sc Z (JK Z T T)<|sZ 3 (r:=by exact sg Z Z (λ hg=>oK (xN (gh hg p19)))<|segZ)))
 refine j.zd [(3,0)] h (λ j h=>?_) λ j h=>?_
 ·have⟨v25,p25,h⟩:=bs h
  have⟨v26,p26,v27,p27,h⟩:=Kg h
  exact j.ze h (hs:=sZ 6 (r:=by exact sg Z Z (λ hg=>oK (qK (gh hg p25)))<|sZ 4 (r:=by exact sg Z Z (λ hg=>oK (jL (gh hg p26)))<|sZ 4 (r:=by exact sg Z Z (λ hg=>oK (xN (gh hg p27)))<|sg Z Z (λ hg=>oM Z V)<|sgg Z Z (λ hg=>zQ Stmt.fld1 Z T)<|sgg Z Z (λ hg=>zz Z V)<|sgg Z Z (λ hg=>jx Z V (zt))<|sgg Z Z (λ hg=>oM Z V)<|sgg Z Z (λ hg=>zQ Stmt.fld2 Z T)<|sgg Z Z (λ hg=>zz Z V)<|sgg Z Z (λ hg=>oCI Z V cI)<|sgg Z Z (λ hg=>xk Z V (zbq hg Z))<|sg Z Z (λ hg=>Za Z V (zbq hg Z))<|segZ))))
 refine j.zd [(3,0)] h (λ j h=>?_) λ j h=>?_
 ·refine j.opn (s:=1) λ b35 o35 c35 j=>?_
  refine j.held (λ w=>CellsAt w b35 o35 c35) yc λ _ j=>?_
  refine j.tA 0 1 (λ _ j=>?_) (ht:=kF74_3)
  refine j.tF 1 1 55 Stmt.fld3 λ _ j=>?_
  refine j.tA 2 1 (λ _ j=>?_) (ht:=kF74_4)
  refine j.tF 3 1 57 Stmt.fld4 (λ _ j=>aK1 4 ?_)
  refine j.zh 1 [(3,0),(59,0)] λ j=>?_
  refine aHN (j.pkZ 1) ?_
  refine aK1 5 ?_
  refine j.stA 3 0 Stmt.set3 (tp Z) [1,58] [] λ j=>?_
  refine aHN (j.pkZ 1) ?_
  refine aK1 6 ?_
  refine j.zh 1 [(3,0),(60,0)] λ j=>?_
  refine aHN (j.pkZ 1) ?_
  refine aK1 7 ?_
  refine j.stA 3 0 Stmt.set4 (tp Z) [1] [] λ j=>?_
  refine aHN (j.pkZ 1) ?_
  refine aK0 ?_
  have j:=j.clo (s:=1)
  have⟨v54,p54,v55,p55,h⟩:=Kg h
  exact j.ze h (hs:=sZ 2 (r:=by exact sc Z (JK Z T T)<|sZ 3 (r:=by exact sg Z Z (λ hg=>oK (jL (gh hg p54)))<|sZ 4 (r:=by exact sg Z Z (λ hg=>oK (qK (gh hg p55)))<|segZ))))
 refine j.zd [(3,0)] h (λ j h=>?_) λ j h=>?_
 ·refine Ka ?_
  refine j.zh 3 [(3,0),(78,0)] λ j=>?_
  refine j.stA 3 0 Stmt.set3 (tp Z) [1] [] (λ j=>Kb ?_)
  have⟨v65,p65,h⟩:=bs h
  exact j.ze h (hs:=sZ 2 (r:=by exact sc Z (JK Z T T)<|sZ 3 (r:=by exact sg Z Z (λ hg=>oK (jL (gh hg p65)))<|segZ)))
 refine j.zd [(3,0)] h (λ j h=>?_) λ j h=>?_
 ·exact j.ze h (hs:=sZ 2 (r:=by exact sc Z (JK Z T T)<|segZ))
 exact j.ze h
instance:Ct1 prog 131 dt dt YD:=⟨λ h=>impl_stmtOk_w h⟩
theorem kS69:slB prog 69 5=true:=by kernel_rfl
theorem kF71_5:fldB prog 71 5 5=true:=by kernel_rfl
theorem Xt:fldB prog 39 0 0=true:=by kernel_rfl
theorem kS37:slB prog 37 6=true:=by kernel_rfl
theorem kT71:tyB prog 71 true 6=true:=by kernel_rfl
theorem kZ71:wW prog 71=some zcFile:=by kernel_rfl
theorem kZ62:wW prog 62=some zcSpec:=by kernel_rfl
theorem kT62:tyB prog 62 true 3=true:=by kernel_rfl
theorem kU111:isFn prog 111=true:=by kernel_rfl
theorem kT39:tyB prog 39 true 1=true:=by kernel_rfl
theorem kE23:elB prog 23 3 1 8=true:=by kernel_rfl
theorem kF62_0:fldB prog 62 0 0=true:=by kernel_rfl
theorem kF62_2:fldB prog 62 2 2=true:=by kernel_rfl
theorem kT23:tyB prog 23 false 1=true:=by kernel_rfl
def qU(x0:List Stmt)(s4:Int):Option (Int⊕(Unit⊕Bool)):=
if(cmpI .lss s4 (x0.length:Int))=true then((atI x0 s4).bind λ v9=>
(YD v9).bind λ v14=>
if(!v14)=true then(some (.inr (.inr false)))
else((i64 (s4+(1:Int))).bind λ v22=>
some (.inl v22)))
else(some (.inr (.inl ())))
def Zg(x0:List Stmt):Option Bool:=
Option.bind (α:=Unit⊕Bool) (zP (λ s4=>qU x0 s4) (0:Int)) (Sum.elim (λ _b2=>
some (cmpI .leq (x0.length:Int) 8)) some)
theorem JU{x0:List Stmt}{r:Bool}(h:Zg x0=some r):Fn prog 99 [dt x0] (dt r):=by
 refine fq1 1 func99 λ M w0 _ j=>?_
 refine j.z1 (λ j=>za ?_)
 refine j.jbq 1 [0] (λ _=>[]) (λ _ _=>[]) h (λ o2 p2 k2=>?_) λ b2 q2 _ _ _ j h=>?_
 ·refine j.z1 λ j=>?_
  refine j.lpq 1 [0,5,6] (λ s4=>[(7,dt s4)]) (λ _ _=>[]) p2 λ s4 x4 q4 _ _ _ j h hx4=>?_
  refine j.zc h (λ j h=>?_) λ j h=>?_
  ·refine Ka ?_
   have⟨v9,p9,h⟩:=bs h
   refine j.zg 2 λ j=>?_
   refine j.alloc 0 Z Z kZ74 QY (gl Z) [0,5,6,7,10] Z [] Z Z λ b12 _ _ _ j=>?_
   refine j.store (sb:=4) 0 FldS.id Z Z Z kT74 Z Z (tp Z) Z [0,5,6,7] Z [] Z Z (λ _ _ j=>Kb ?_)
   have⟨v14,p14,h⟩:=bs h
   refine j.zc h (λ j h=>?_) λ j h=>?_
   ·exact j.ze (jo (lo h hx4) k2)
   have⟨v22,p22,h⟩:=bs h
   exact j.zn [] h
  have h:=lo h hx4
  exact flz h
 exact j.ze h
instance:Ct1 prog 99 dt dt Zg:=⟨λ h=>JU h⟩
def ZL(x0:File):Option Bool:=
(xe x0.root (0:Int) (2:Int)).bind λ v2=>
(gO ((!v2) == false) (xO x0.pkg)).bind λ v3=>
(gO (((!v2)||(!v3)) == false) (xe x0.stamp (0:Int) (99:Int))).bind λ v4=>
(gO ((((!v2)||(!v3))||(!v4)) == false) (Zg x0.body)).bind λ v5=>
if((((!v2)||(!v3))||(!v4))||(!v5))=true then(some false)
else(if x0.init=true then(some (decide (x0.pkg≠(⟨[]⟩:Str))&&decide (x0.name=(⟨[]⟩:Str))))
else((xf x0.name).bind λ v18=>
(gO (v18 == true) (wj x0.pkg x0.name)).bind λ v19=>
some (v18&&decide (v19≠(⟨[]⟩:Str)))))
theorem impl_fileOk_w{x0:File}{r:Bool}(h:ZL x0=some r):Fn prog 63 [dt x0] (dt r):=by
 refine fq1 0 func63 λ M _ _ j=>?_
 refine j.z1 λ j=>?_
 have⟨v2,p2,v3,p3,h⟩:=Kg h
 have⟨v4,p4,v5,p5,h⟩:=Kg h
 refine j.zc h (λ j h=>?_) (λ j h=>?_) (hs:=sZ 2 (r:=by exact sc Z (oK (qK p2))<|sZ 4 (r:=by exact sg Z Z (λ hg=>oK (jM (gh hg p3)))<|sZ 5 (r:=by exact sg Z Z (λ hg=>oK (qK (gh hg p4)))<|sZ 5 (r:=by exact sg Z Z (λ hg=>oK (JU (gh hg p5)))<|segZ)))))
 ·exact j.ze h
 refine j.zc h (λ j h=>?_) λ j h=>?_
 ·exact j.ze h
 have⟨v18,p18,v19,p19,h⟩:=Kg h
 exact j.ze h (hs:=sZ 2 (r:=by exact sc Z (oK (jL p18))<|sZ 5 (r:=by exact sg Z Z (λ hg=>oK (WU (gh hg p19)))<|segZ)))
instance:Ct1 prog 63 dt dt ZL:=⟨λ h=>impl_fileOk_w h⟩
def qV(v10:File)(v25:List File)(s28:Int):Option (Int⊕(Unit⊕(Int⊕(Unit⊕Bool)))):=
if(cmpI .lss s28 (v25.length:Int))=true then((atI v25 s28).bind λ v33=>
(Zf v10 v33).bind λ v38=>
if v38=true then(some (.inr (.inr (.inr (.inr false)))))
else((i64 (s28+(1:Int))).bind λ v48=>
some (.inl v48)))
else(some (.inr (.inl ())))
def qW(x0:Tree)(s4:Int):Option (Int⊕(Unit⊕Bool)):=
if(cmpI .lss s4 (x0.files.length:Int))=true then(Option.bind (α:=Unit⊕(Int⊕(Unit⊕Bool))) ((atI x0.files s4).bind λ v10=>
(ZL v10).bind λ v16=>
if(!v16)=true then(some (.inr (.inr (.inr false))))
else((JJ x0.files s4).bind λ v25=>
zP (λ s28=>qV v10 v25 s28) (0:Int))) (Sum.elim (λ _b9=>
(i64 (s4+(1:Int))).bind λ v53=>
some (.inl v53)) some))
else(some (.inr (.inl ())))
def xg(x0:Tree):Option Bool:=
Option.bind (α:=Unit⊕Bool) (zP (λ s4=>qW x0 s4) (0:Int)) (Sum.elim (λ _b2=>
some (cmpI .leq (x0.files.length:Int) 12)) some)
theorem jN{r:Bool}(h:xg x0=some r):Fn prog 28 [dt x0] (dt r):=by
 refine fq1 2 func28 λ M w0 _ j=>?_
 refine j.z1 (λ j=>za ?_)
 refine j.jbq 2 [1] (λ _=>[]) (λ _ _=>[]) h (λ o2 p2 k2=>?_) λ b2 q2 _ _ _ j h=>?_
 ·refine j.z1 λ j=>?_
  refine j.lpq 2 [1,8,9] (λ s4=>[(10,dt s4)]) (λ _ _=>[]) p2 λ s4 x4 q4 _ _ _ j h hx4=>?_
  refine j.zc h (λ j h=>?_) λ j h=>?_
  ·refine wqk ?_
   refine za ?_
   refine j.jbq 2 [1,8,9,10] (λ _=>[]) (λ _ _=>[]) h (λ o9 p9 k9=>?_) λ b9 q9 _ _ _ j h=>?_
   ·refine Ka ?_
    have⟨v10,p10,h⟩:=bs p9
    refine j.zg 3 λ j=>?_
    refine j.alloc 0 Z Z kZ71 zbx (gl Z) [1,8,9,10,12,14] Z [] Z Z λ b13 _ _ _ j=>?_
    refine j.zh 1 [(4,0)] λ j=>?_
    refine j.store (sb:=4) 0 FldS.id Z Z Z kT71 Z Z (tp Z) Z [1,3,8,9,10] Z [] Z Z (λ _ _ j=>Kb ?_)
    have⟨v16,p16,h⟩:=bs h
    refine j.zd [(4,0)] h (λ j h=>?_) λ j h=>?_
    ·exact j.ze (jo (lo (jo h k9) hx4) k2)
    have⟨v25,p25,h⟩:=bs h
    refine j.zo [(4,0)] λ j=>?_
    refine j.lpq 2 [1,8,9,10,21,22] (λ s28=>[(23,dt s28)]) (λ _ q=>[(4,0,dbox (q 0) 0 v10)]) h λ s28 x28 q28 _ _ _ j h hx28=>?_
    refine j.zd [(4,0)] h (λ j h=>?_) λ j h=>?_
    ·refine Ka ?_
     have⟨v33,p33,h⟩:=bs h
     refine j.zh 2 [(4,0)] λ j=>?_
     refine j.alloc 1 Z Z kZ71 zbx (gl Z) [1,8,9,10,21,22,23,26] Z [4] Z Z λ b36 _ _ _ j=>?_
     refine j.store (sb:=6) 1 FldS.id Z Z Z kT71 Z Z (tp Z) Z [1,8,9,10,21,22,23] Z [4] Z Z (λ _ _ j=>Kb ?_)
     have⟨v38,p38,h⟩:=bs h
     refine j.zd [(4,0)] h (λ j h=>?_) λ j h=>?_
     ·exact j.ze (jo (lo (jo (lo h hx28) k9) hx4) k2)
     have⟨v48,p48,h⟩:=bs h
     exact j.zn [(4,0)] h
    have h:=lo h hx28
    exact flz h
   have⟨v53,p53,h⟩:=bs h
   exact j.zn [] h
  have h:=lo h hx4
  exact flz h
 exact j.ze h
instance:Ct1 prog 28 dt dt xg:=⟨λ h=>jN h⟩
def ZC(x0:File):Option Str:=
(ZL x0).bind λ v2=>
if(!v2)=true then(some (⟨[]⟩:Str))
else(if x0.init=true then(some x0.pkg)
else((wj x0.pkg x0.name).bind λ v12=>
some v12))
theorem zdU{x0:File}{r:Str}(h:ZC x0=some r):Fn prog 136 [dt x0] (dt r):=by
 refine fq1 0 func136 λ M _ _ j=>?_
 refine j.z1 λ j=>?_
 have⟨v2,p2,h⟩:=bs h
 refine j.zc h (λ j h=>?_) λ j h=>?_
 ·exact j.ze h
 refine j.zc h (λ j h=>?_) λ j h=>?_
 ·exact j.ze h
 have⟨v12,p12,h⟩:=bs h
 exact j.ze h
instance:Ct1 prog 136 dt dt ZC:=⟨λ h=>zdU h⟩
def Yl(x0:Tree)(x1:Int)(x2:Str)(s4:Int):Option (Int⊕(Unit⊕Bool)):=
if(cmpI .lss s4 (x0.files.length:Int))=true then((atI x0.files s4).bind λ v9=>
(gO (cmpI .eql v9.root x1 == true) (Z9 v9.pkg x2)).bind λ v14=>
if(cmpI .eql v9.root x1&&v14)=true then(some (.inr (.inr true)))
else((i64 (s4+(1:Int))).bind λ v22=>
some (.inl v22)))
else(some (.inr (.inl ())))
def YE(x0:Tree)(x1:Int)(x2:Str):Option Bool:=
Option.bind (α:=Unit⊕Bool) (zP (λ s4=>Yl x0 x1 x2 s4) (0:Int)) (Sum.elim (λ _b2=>
some (decide (x2=(⟨[]⟩:Str)))) some)
theorem za9{x1:Int}{r:Bool}(h:YE x0 x1 x2=some r):Fn prog 148 [dt x0,dt x1,dt x2] (dt r):=by
 refine fq1 1 func148 λ M w0 _ j=>?_
 refine j.z1 (λ j=>za ?_)
 refine j.jbq 1 [2] (λ _=>[]) (λ _ _=>[]) h (λ o2 p2 k2=>?_) λ b2 q2 _ _ _ j h=>?_
 ·refine j.z1 λ j=>?_
  refine j.lpq 1 [1,2,10,11] (λ s4=>[(12,dt s4)]) (λ _ _=>[]) p2 λ s4 x4 q4 _ _ _ j h hx4=>?_
  refine j.zc h (λ j h=>?_) λ j h=>?_
  ·refine Ka ?_
   have⟨v9,p9,h⟩:=bs h
   refine j.zg 2 λ j=>?_
   refine j.alloc 0 Z Z kZ71 zbx (gl Z) [1,2,10,11,12,15] Z [] Z Z λ b12 _ _ _ j=>?_
   refine j.store (sb:=8) 0 FldS.id Z Z Z kT71 Z Z (tp Z) Z [1,2,10,11,12] Z [] Z Z (λ _ _ j=>Kb ?_)
   have⟨v14,p14,h⟩:=bs h
   refine j.zc h (λ j h=>?_) (λ j h=>?_) (hs:=sc Z (yM File.fld0 Z T)<|sc Z (yx Z T)<|sZ 3 (r:=by exact sg Z Z (λ hg=>yM File.fld1 Z (ht:=zc0) T)<|sg Z Z (λ hg=>yx Z V)<|sZ 1 (r:=by exact sg Z Z (λ hg=>oK (Q4 (gh hg p14)))<|segZ)))
   ·exact j.ze (jo (lo h hx4) k2)
   have⟨v22,p22,h⟩:=bs h
   exact j.zn [] h
  have h:=lo h hx4
  exact flz h
 exact j.ze h
instance:Ct3 prog 148 dt dt dt dt YE:=⟨λ h=>za9 h⟩
def jj:Option Spec:=
some (⟨(0:Int),(-1:Int),([]:List Int)⟩:Spec)
theorem WX{r:Spec}(h:jj=some r):Fn prog 75 [] (dt r):=by
 refine fq1 1 func75 λ M _ _ j=>?_
 refine Ka ?_
 refine j.alloc 0 Z Z kZ62 WP (gl Z) [] Z [] Z Z (λ b1 _ _ _ j=>Kb ?_)
 refine Ka ?_
 refine j.zh 2 [(0,0)] (λ j=>?_) (hs:=sc Z (yf (opds:=[]) (α:=Int) Z Z Z .nil)<|sc Z (yp (parts:=[(0,.const (.int .i64 0)),(1,.const (.int .i64 (-1))),(2,.tmp 1)]) (ns:=[1,1,1]) (zs:=zcV) Z Z (λ w a hl=>FA ⟨by decide,Z⟩ (FA ⟨by decide,Z⟩ (FA ⟨by decide,Rep.len (α:=List Int) (OpdR.cells T hl)⟩ FN))) (λ w a hl=>Spec.parts (x:=(⟨(0:Int),(-1:Int),([]:List Int)⟩:Spec)) (OpdR.cells cI hl) (OpdR.cells cI hl) (OpdR.cells T hl)))<|.nil)
 refine j.store (sb:=0) 0 FldS.id Z Z Z kT62 Z Z (tp Z) Z [] Z [] Z Z (λ _ _ j=>Kb ?_)
 exact j.ret_box h
instance:Ct0 prog 75  dt jj:=⟨λ h=>WX h⟩
def qX(x0:List Int)(s4:Int):Option (Int⊕(Unit⊕Bool)):=
if(cmpI .lss s4 (x0.length:Int))=true then((atI x0 s4).bind λ v9=>
(xe v9 (0:Int) (2:Int)).bind λ v12=>
(gO ((!v12) == false) (JJ x0 s4)).bind λ v13=>
(gO ((!v12) == false) (xW v13 v9)).bind λ v14=>
if((!v12)||v14)=true then(some (.inr (.inr false)))
else((i64 (s4+(1:Int))).bind λ v24=>
some (.inl v24)))
else(some (.inr (.inl ())))
def wo(x0:List Int):Option Bool:=
Option.bind (α:=Unit⊕Bool) (zP (λ s4=>qX x0 s4) (0:Int)) (Sum.elim (λ _b2=>
some true) some)
theorem Zh{x0:List Int}{r:Bool}(h:wo x0=some r):Fn prog 7 [dt x0] (dt r):=by
 refine fq1 0 func7 λ M w0 _ j=>?_
 refine j.z1 (λ j=>za ?_)
 refine j.jb [] (λ _=>[]) h (λ o2 p2 k2=>?_) λ b2 _ _ j h=>?_
 ·refine j.z1 λ j=>?_
  refine j.lp [0,5,6] (λ s4=>[(7,dt s4)]) p2 λ s4 x4 _ _ j h hx4=>?_
  refine j.zc h (λ j h=>?_) λ j h=>?_
  ·have⟨v9,p9,h⟩:=bs h
   refine j.z1 λ j=>?_
   have⟨v12,p12,v13,p13,h⟩:=Kg h
   have⟨v14,p14,h⟩:=bs h
   refine j.zc h (λ j h=>?_) (λ j h=>?_) (hs:=sZ 1 (r:=by exact sc Z (oK (qK p12))<|sZ 4 (r:=by exact sg Z Z (λ hg=>za1 Z V V (gh hg p13))<|sZ 1 (r:=by exact sg Z Z (λ hg=>oK (Yu (gh hg p14)))<|segZ))))
   ·exact j.ze (jo (lo h hx4) k2)
   have⟨v24,p24,h⟩:=bs h
   exact j.zn [] h
  have h:=lo h hx4
  exact flz h
 exact j.ze h
instance:Ct1 prog 7 dt dt wo:=⟨λ h=>Zh h⟩
def Ym(x0:Tree)(x1:File)(s4:Int):Option (Int⊕(Unit⊕Int)):=
if(cmpI .lss s4 (x0.files.length:Int))=true then((atI x0.files s4).bind λ v9=>
(Zf x1 v9).bind λ v15=>
if v15=true then(some (.inr (.inr s4)))
else((i64 (s4+(1:Int))).bind λ v23=>
some (.inl v23)))
else(some (.inr (.inl ())))
def ZM(x0:Tree)(x1:File):Option Int:=
Option.bind (α:=Unit⊕Int) (zP (λ s4=>Ym x0 x1 s4) (0:Int)) (Sum.elim (λ _b2=>
some (-1:Int)) some)
theorem Jw{x1:File}{r:Int}(h:ZM x0 x1=some r):Fn prog 147 [dt x0,dt x1] (dt r):=by
 refine fq1 1 func147 λ M w0 _ j=>?_
 refine j.z1 (λ j=>za ?_)
 refine j.jbq 1 [] (λ _=>[]) (λ _ _=>[]) h (λ o2 p2 k2=>?_) λ b2 q2 _ _ _ j h=>?_
 ·refine j.z1 λ j=>?_
  refine j.lpq 1 [3,8,9] (λ s4=>[(10,dt s4)]) (λ _ _=>[]) p2 λ s4 x4 q4 _ _ _ j h hx4=>?_
  refine j.zc h (λ j h=>?_) λ j h=>?_
  ·refine Ka ?_
   have⟨v9,p9,h⟩:=bs h
   refine j.zg 3 λ j=>?_
   refine j.alloc 0 Z Z kZ71 zbx (gl Z) [3,8,9,10,12,14] Z [] Z Z λ b12 _ _ _ j=>?_
   refine j.zh 1 [(6,0)] λ j=>?_
   refine j.store (sb:=6) 0 FldS.id Z Z Z kT71 Z Z (tp Z) Z [3,5,8,9,10] Z [] Z Z (λ _ _ j=>Kb ?_)
   have⟨v15,p15,h⟩:=bs h
   refine j.zc h (λ j h=>?_) λ j h=>?_
   ·exact j.ze (jo (lo h hx4) k2)
   have⟨v23,p23,h⟩:=bs h
   exact j.zn [] h
  have h:=lo h hx4
  exact flz h
 exact j.ze h
instance:Ct2 prog 147 dt dt dt ZM:=⟨λ h=>Jw h⟩
def jU(x0:Tree)(x1:List Int)(x2:Str)(x3:Str)(v3:Str)(s16:Spec×(List Int)×Int):Option ((Spec×(List Int)×Int)⊕((Spec×(List Int))⊕Spec)):=
if(cmpI .lss s16.2.2 (x1.length:Int))=true then(Option.bind (α:=(Spec×(List Int))⊕((Spec×(List Int)×Int)⊕((Spec×(List Int))⊕Spec))) ((atI x1 s16.2.2).bind λ v22=>
Option.bind (α:=Bool×Bool) (some (true,true)) λ o26=>
(ZM x0 (⟨v22,v3,⟨[]⟩,true,0,[]⟩:File)).bind λ v31=>
if(o26.1&&cmpI .geq v31 0)=true then(some (.inr (.inr (.inr (⟨(2:Int),v31,([v22]:List Int)⟩:Spec)))))
else((ZM x0 (⟨v22,x2,x3,false,0,[]⟩:File)).bind λ v42=>
if(o26.2&&cmpI .geq v42 0)=true then(some (.inr (.inr (.inr (⟨(1:Int),v42,([]:List Int)⟩:Spec)))))
else((gO (o26.1 == true) (YE x0 v22 v3)).bind λ v53=>
if(o26.1&&v53)=true then((appO 8 s16.2.1 ([v22]:List Int)).bind λ v60=>
some (.inl (s16.1,v60)))
else(some (.inl (s16.1,s16.2.1)))))) (Sum.elim (λ b21=>
(i64 (s16.2.2+(1:Int))).bind λ v64=>
some (.inl (b21.1,b21.2,v64))) some))
else(some (.inr (.inl (s16.1,s16.2.1))))
def Yb(x0:Tree)(x1:List Int)(x2:Str)(x3:Str):Option Spec:=
(wj x2 x3).bind λ v3=>
if(decide (v3=(⟨[]⟩:Str)))=true then((jj).bind λ v9=>
some v9)
else(Option.bind (α:=(Spec×(List Int))⊕Spec) (zP (λ s16=>jU x0 x1 x2 x3 v3 s16) (Wn,[],(0:Int))) (Sum.elim (λ b14=>
if(cmpI .gtr (b14.2.length:Int) 0)=true then(some (⟨(3:Int),(-1:Int),b14.2⟩:Spec))
else((jj).bind λ v75=>
some v75)) some))
theorem zac{r:Spec}(h:Yb x0 x1 x2 x3=some r):Fn prog 109 [dt x0,dt x1,dt x2,dt x3,dnilf] (dt r):=by
 unfold Yb at h
 refine fnx (fn:=f109) 2 func109 Z Z (λ M w0 _ j=>Kc ?_)
 refine Ka ?_
 refine j.segA 1 [1,2,3,4,5] [] λ j=>?_
 refine j.alloc 1 Z Z kZ62 WP (by simp) [1,2,3,4,5] Z [] Z Z (λ b2 _ _ _ j=>Kb ?_)
 refine za ?_
 obtain⟨v3,p3,h⟩:=bsW h WU
 refine j.sqA [1,2,3,4,5,11] [(10,1)] (λ j=>Kc ?_)
 refine j.sqA [1,2,3,4,5,11,24] [(10,1)] λ j=>?_
 refine j.cs h (λ _ h=>?_) λ _ h=>?_
 ·refine Kc ?_
  refine Ka ?_
  obtain⟨v9,p9,h⟩:=bsW h WX
  refine j.segA 1 [25] [(10,1)] λ j=>?_
  refine j.store (sb:=10) 1 FldS.id Z Z Z kT62 Z Z (tp Z) Z [] Z [] Z Z (λ _ _ j=>Kb ?_)
  refine za ?_
  refine wp_ret (zK ?_)
  exact j.ret_box h
 refine wp_skip ?_
 refine za ?_
 refine j.sqB (sc Z (wA (α:=Int) (e:=3) Z)<|segA) [1,2,3,4,5,11] [(10,1),(12,0)] λ j=>?_
 have⟨o14,p14,k14⟩:=bs h
 refine jg (λ a w=>∃ b14,o14=.inl b14/\(∃ M1 Q R,Sx (Frm.of w0) 92 M M1 [oneB Q,oneB R] [] [(10,1,dbox R 0 b14.1),(12,0,dtip Q 3 b14.2)] a w)) ?_ ?_
 ·refine j.sqA [2,3,4,5,11,27,28,29] [(10,1),(12,0)] (λ j=>wp_block ?_)
  refine XI p14 (λ s16 a w=>∃ M1 Q R,Sx (Frm.of w0) 92 M M1 [oneB Q,oneB R] [(2,dt x2),(3,dt x3),(4,dnilf),(5,dptr x0),(11,dt v3),(27,dt x1),(28,dt (x1.length:Int)),(29,dt s16.2.2)] [(10,1,dbox R 0 s16.1),(12,0,dtip Q 3 s16.2.1)] a w) fx ?_
  rintro s16 x16 _ _ ⟨_,Q,R,j⟩ hs16 hx16
  have h:jU x0 x1 x2 x3 v3 s16=some x16:=hs16
  unfold jU at h
  refine j.sqA [2,3,4,5,11,27,28,29,30] [(10,1),(12,0)] (λ j=>Kc ?_)
  refine j.cs h (λ _ h=>?_) λ _ h=>?_
  ·refine wp_skip ?_
   refine za ?_
   have⟨o21,p21,k21⟩:=bs h
   refine jg (λ a w=>∃ b21,o21=.inl b21/\(∃ M1 Q R,Sx (Frm.of w0) 92 M M1 [oneB Q,oneB R] [(2,dt x2),(3,dt x3),(4,dnilf),(5,dptr x0),(11,dt v3),(27,dt x1),(28,dt (x1.length:Int)),(29,dt s16.2.2)] [(10,1,dbox R 0 b21.1),(12,0,dtip Q 3 b21.2)] a w)) ?_ ?_
   ·refine wp_block ?_
    have⟨v22,p22,h⟩:=bs p21
    refine j.sqA [2,3,4,5,11,14,27,28,29] [(10,1),(12,0)] λ j=>?_
    refine j.sqA [2,3,4,5,11,14,15,16,27,28,29] [(10,1),(12,0)] λ j=>?_
    have⟨o26,p26,k26⟩:=bs h
    refine jg (λ a w=>∃ M1 Q R,Sx (Frm.of w0) 92 M M1 [oneB Q,oneB R] [(2,dt x2),(3,dt x3),(4,dnilf),(5,dptr x0),(11,dt v3),(14,dt v22),(15,dt o26.1),(16,dt o26.2),(27,dt x1),(28,dt (x1.length:Int)),(29,dt s16.2.2)] [(10,1,dbox R 0 s16.1),(12,0,dtip Q 3 s16.2.1)] a w) ?_ ?_
    ·refine j.sqB (sp 1 (r:=by exact sc Z (xNeNil Z kU111 T cNil)<|.nil)) [2,3,4,5,11,14,15,16,27,28,29,34] [(10,1),(12,0)] λ j=>?_
     refine j.csF (c:=34) Z ?_
     refine wp_skip ?_
     refine za ?_
     obtain rfl:=Option.some.inj p26
     exact fx
    rintro _ _ ⟨_,Q,R,j⟩
    have h:=k26
    refine Kc ?_
    have⟨v31,p31,h⟩:=bs h
    refine j.sqB (sp 3 (r:=by exact sc Z (yp (parts:=[(0,.tmp 47),(1,.tmp 48),(3,.const (.bool true))]) (ns:=[1,1,1,1,1,1]) (zs:=zpFile) Z Z (λ w a hl=>FA ⟨by decide,Rep.len (α:=Int) (OpdR.cells T hl)⟩ (FA ⟨by decide,Rep.len (α:=Str) (OpdR.cells T hl)⟩ (FA ⟨by decide,Z⟩ FN))) (λ w a hl=>File.parts (x:=(⟨v22,v3,⟨[]⟩,true,0,[]⟩:File)) (OpdR.cells T hl) (OpdR.cells T hl) qt (OpdR.cells cB hl) ⟨Z,trivial⟩ Y7))<|sc Z (oK (Jw p31))<|segA)) [2,3,4,5,11,14,15,16,18,27,28,29] [(10,1),(12,0)] (λ j=>?_)
    refine j.sqA [2,3,4,5,11,14,15,16,18,27,28,29,55] [(10,1),(12,0)] λ j=>?_
    refine j.cs h (λ _ h=>?_) λ _ h=>?_
    ·refine Kc ?_
     refine Ka ?_
     refine j.segB 4 (sp 2 (r:=by exact sc Z (yf (opds:=[.tmp 57]) Z Z Z (.cons T .nil))<|sc Z (yp (parts:=[(0,.const (.int .i64 2)),(1,.tmp 56),(2,.tmp 58)]) (ns:=[1,1,1]) (zs:=zcV) Z Z (λ w a hl=>FA ⟨by decide,Z⟩ (FA ⟨by decide,Rep.len (α:=Int) (OpdR.cells T hl)⟩ (FA ⟨by decide,Rep.len (α:=List Int) (OpdR.cells T hl)⟩ FN))) (λ w a hl=>Spec.parts (x:=(⟨(2:Int),v31,([v22]:List Int)⟩:Spec)) (OpdR.cells cI hl) (OpdR.cells T hl) (OpdR.cells T hl)))<|.nil)) [59] [(10,1)] (λ j=>?_)
     refine j.store (sb:=10) 1 FldS.id Z Z Z kT62 Z Z (tp Z) Z [] Z [] Z Z (λ _ _ j=>Kb ?_)
     refine za ?_
     refine wp_ret (zK (yq (zK (zK (yq (zK ?_))))))
     have h:=jo h k21
     have h:=lo h hx16
     have h:=jo h k14
     exact j.ret_box h
    refine wp_skip ?_
    refine za ?_
    refine Kc ?_
    have⟨v42,p42,h⟩:=bs h
    refine j.sqB (sp 4 (r:=by exact sc Z (yp (parts:=[(0,.tmp 61),(1,.tmp 62),(2,.tmp 63)]) (ns:=[1,1,1,1,1,1]) (zs:=zpFile) Z Z (λ w a hl=>FA ⟨by decide,Rep.len (α:=Int) (OpdR.cells T hl)⟩ (FA ⟨by decide,Rep.len (α:=Str) (OpdR.cells T hl)⟩ (FA ⟨by decide,Rep.len (α:=Str) (OpdR.cells T hl)⟩ FN))) (λ w a hl=>File.parts (x:=(⟨v22,x2,x3,false,0,[]⟩:File)) (OpdR.cells T hl) (OpdR.cells T hl) (OpdR.cells T hl) ⟨Z,trivial⟩ ⟨Z,trivial⟩ Y7))<|sc Z (oK (Jw p42))<|segA)) [2,3,4,5,11,14,15,16,19,27,28,29] [(10,1),(12,0)] (λ j=>?_)
    refine j.sqA [2,3,4,5,11,14,15,19,27,28,29,70] [(10,1),(12,0)] λ j=>?_
    refine j.cs h (λ _ h=>?_) λ _ h=>?_
    ·refine Kc ?_
     refine Ka ?_
     refine j.segB 3 (sp 1 (r:=by exact sc Z (yf (opds:=[]) (α:=Int) Z Z Z .nil)<|sc Z (yp (parts:=[(0,.const (.int .i64 1)),(1,.tmp 71),(2,.tmp 72)]) (ns:=[1,1,1]) (zs:=zcV) Z Z (λ w a hl=>FA ⟨by decide,Z⟩ (FA ⟨by decide,Rep.len (α:=Int) (OpdR.cells T hl)⟩ (FA ⟨by decide,Rep.len (α:=List Int) (OpdR.cells T hl)⟩ FN))) (λ w a hl=>Spec.parts (x:=(⟨(1:Int),v42,([]:List Int)⟩:Spec)) (OpdR.cells cI hl) (OpdR.cells T hl) (OpdR.cells T hl)))<|.nil)) [73] [(10,1)] (λ j=>?_)
     refine j.store (sb:=10) 1 FldS.id Z Z Z kT62 Z Z (tp Z) Z [] Z [] Z Z (λ _ _ j=>Kb ?_)
     refine za ?_
     refine wp_ret (zK (yq (zK (zK (yq (zK ?_))))))
     have h:=jo h k21
     have h:=lo h hx16
     have h:=jo h k14
     exact j.ret_box h
    refine wp_skip ?_
    refine za ?_
    have⟨v53,p53,h⟩:=bs h
    refine j.sqB (sp 5 (r:=by exact sg Z Z (λ hg=>oK (za9 (gh hg p53)))<|segA)) [2,3,4,5,11,14,27,28,29,80] [(10,1),(12,0)] λ j=>?_
    refine j.cs h (λ _ h=>?_) λ _ h=>?_
    ·refine Ka ?_
     refine j.segB 3 (sp 2 (r:=by exact sc Z (yf (opds:=[.tmp 82]) Z Z Z (.cons T .nil))<|.nil)) [2,3,4,5,11,27,28,29,83] [(10,1),(12,0),(81,0)] λ j=>?_
     have⟨v60,p60,h⟩:=bs h
     refine j.app 0 Z Z kE23 Z Z Z xv p60 [2,3,4,5,11,27,28,29] Z [10] Z Z λ g59 _ _ _ j=>?_
     refine j.segA 1 [2,3,4,5,11,27,28,29] [(10,1),(12,0)] (λ j=>Kb ?_)
     refine z3 ?_
     refine za ?_
     exact fl h
    refine wp_skip ?_
    refine z3 ?_
    refine za ?_
    exact fl h
   rintro _ _ ⟨b21,rfl,⟨_,Q,R,j⟩⟩
   have h:=jn k21
   have⟨v64,p64,h⟩:=bs h
   refine j.rgA [2,3,4,5,11,27,28,29] [(10,1),(12,0)] (λ j=>za ?_)
   exact fl h
  refine wp_exit (zZ (zZ (y6 ?_)))
  refine za ?_
  have h:=lo h hx16
  exact fl h
 rintro _ _ ⟨b14,rfl,⟨_,Q,R,j⟩⟩
 have h:=jn k14
 refine Kc ?_
 refine j.sqB (sp 1 (r:=by exact sc Z (op_lenT Z T)<|segA)) [88] [(10,1),(12,0)] λ j=>?_
 refine j.cs h (λ _ h=>?_) λ _ h=>?_
 ·have j:=j.frz 0 (s:=12) Z Z [88] Z [10] Z
  refine Kc ?_
  refine Ka ?_
  refine j.segB 2 (sp 1 (r:=by exact sc Z (yp (parts:=[(0,.const (.int .i64 3)),(1,.const (.int .i64 (-1))),(2,.tmp 89)]) (ns:=[1,1,1]) (zs:=zcV) Z Z (λ w a hl=>FA ⟨by decide,Z⟩ (FA ⟨by decide,Z⟩ (FA ⟨by decide,Rep.len (α:=List Int) (OpdR.cells T hl)⟩ FN))) (λ w a hl=>Spec.parts (x:=(⟨(3:Int),(-1:Int),b14.2⟩:Spec)) (OpdR.cells cI hl) (OpdR.cells cI hl) (OpdR.cells T hl)))<|.nil)) [90] [(10,1)] (λ j=>?_)
  refine j.store (sb:=10) 1 FldS.id Z Z Z kT62 Z Z (tp Z) Z [] Z [] Z Z (λ _ _ j=>Kb ?_)
  refine za ?_
  refine wp_ret (zK ?_)
  exact j.ret_box h
 refine wp_skip ?_
 refine za ?_
 refine Kc ?_
 refine Ka ?_
 obtain⟨v75,p75,h⟩:=bsW h WX
 refine j.segA 1 [91] [(10,1)] λ j=>?_
 refine j.store (sb:=10) 1 FldS.id Z Z Z kT62 Z Z (tp Z) Z [] Z [] Z Z (λ _ _ j=>Kb ?_)
 refine za ?_
 refine wp_ret ?_
 exact j.ret_box h
def jV(x0:Tree)(v8:List Str)(s11:Spec×Spec×Str×Int):Option ((Spec×Spec×Str×Int)⊕((Spec×Spec)⊕Spec)):=
if(cmpI .lss s11.2.2.2 (v8.length:Int))=true then((atI v8 s11.2.2.2).bind λ v16=>
if(cmpI .eql s11.2.1.kind 0||cmpI .eql s11.2.1.kind 1)=true then((jj).bind λ v22=>
some (.inr (.inr v22)))
else((Yb x0 s11.2.1.roots s11.2.2.1 v16).bind λ v28=>
(wj s11.2.2.1 v16).bind λ v32=>
(i64 (s11.2.2.2+(1:Int))).bind λ v35=>
some (.inl (s11.1,v28,v32,v35))))
else(some (.inr (.inl (s11.1,s11.2.1))))
def YN(x0:Tree)(x1:List Int)(x2:Str):Option Spec:=
Option.bind (α:=(Spec×Spec)⊕Spec) ((jT x2).bind λ v8=>
zP (λ s11=>jV x0 v8 s11) (Wn,(⟨(3:Int),(-1:Int),x1⟩:Spec),(⟨[]⟩:Str),(0:Int))) (Sum.elim (λ b7=>
some b7.2) some)
theorem zdV{r:Spec}(h:YN x0 x1 x2=some r):Fn prog 76 [dt x0,dt x1,dt x2,dnilf] (dt r):=by
 refine fq1 2 func76 λ M w0 _ j=>?_
 refine Ka ?_
 refine j.zg 1 λ j=>?_
 refine j.alloc 0 Z Z kZ62 WP (gl Z) [1,2,3,4] Z [] Z Z (λ b2 _ _ _ j=>Kb ?_)
 refine Ka ?_
 refine j.zh 2 [(8,0)] (λ j=>?_) (hs:=sZ 1 (r:=by exact sc Z (yp (parts:=[(0,.const (.int .i64 3)),(1,.const (.int .i64 (-1))),(2,.tmp 13)]) (ns:=[1,1,1]) (zs:=zcV) Z Z (λ w a hl=>FA ⟨by decide,Z⟩ (FA ⟨by decide,Z⟩ (FA ⟨by decide,Rep.len (α:=List Int) (OpdR.cells T hl)⟩ FN))) (λ w a hl=>Spec.parts (x:=(⟨(3:Int),(-1:Int),x1⟩:Spec)) (OpdR.cells cI hl) (OpdR.cells cI hl) (OpdR.cells T hl)))<|.nil))
 refine j.alloc 1 Z Z kZ62 WP (gl Z) [2,3,4,14] Z [8] Z Z λ b4 _ _ _ j=>?_
 refine j.store (sb:=9) 1 FldS.id Z Z Z kT62 Z Z (tp Z) Z [2,3,4] Z [8] Z Z (λ _ _ j=>Kb ?_)
 refine j.zo [(8,0),(9,1)] (λ j=>za ?_)
 refine j.jbq 2 [] (λ _=>[]) (λ b7 q=>[(8,0,dbox (q 0) 0 b7.1),(9,1,dbox (q 1) 0 b7.2)]) h (λ o7 p7 k7=>?_) λ b7 q7 _ _ _ j h=>?_
 ·obtain⟨v8,p8,h⟩:=bsW p7 Xr
  refine j.zo [(8,0),(9,1)] λ j=>?_
  refine j.lpq 2 [3,4,16,17] (λ s11=>[(10,dt s11.2.2.1),(18,dt s11.2.2.2)]) (λ s11 q=>[(8,0,dbox (q 0) 0 s11.1),(9,1,dbox (q 1) 0 s11.2.1)]) h λ s11 x11 q11 _ _ _ j h hx11=>?_
  refine j.zd [(8,0),(9,1)] h (λ j h=>?_) λ j h=>?_
  ·have⟨v16,p16,h⟩:=bs h
   refine j.zo [(8,0),(9,1)] λ j=>?_
   refine j.zd [(8,0),(9,1)] h (λ j h=>?_) (λ j h=>?_) (hs:=sc Z (yM Spec.fld0 Z T)<|
     sc Z (yx Z T)<|
     sc Z (oCI Z T cI)<|
     sc Z (oM Z T)<|
     sg Z Z (λ hg=>yM Spec.fld0 Z T)<|
     sg Z Z (λ hg=>yx Z V)<|
     sg Z Z (λ hg=>oCI Z V cI)<|
     sc Z (Za Z T T)<|.nil)
   ·refine Ka ?_
    have⟨v22,p22,h⟩:=bs h
    refine j.zh 1 [(8,0)] λ j=>?_
    refine j.store (sb:=8) 0 FldS.id Z Z Z kT62 Z Z (tp Z) Z [] Z [] Z Z (λ _ _ j=>Kb ?_)
    have h:=lo h hx11
    have h:=jo h k7
    exact j.ret_box h
   refine Ka ?_
   have⟨v28,p28,h⟩:=bs h
   refine j.zh 7 [(8,0),(9,1)] (λ j=>?_) (hs:=sZ 1 (r:=by exact sc Z (yM Spec.fld2 Z T)<|sc Z (yx Z T)<|sZ 3 (r:=by exact sc Z (oK (zac p28))<|.nil)))
   refine j.store (sb:=9) 1 FldS.id Z Z Z kT62 Z Z (tp Z) Z [3,4,10,12,16,17,18] Z [8] Z Z (λ _ _ j=>Kb ?_)
   have⟨v32,p32,h⟩:=bs h
   refine j.zo [(8,0),(9,1)] λ j=>?_
   have⟨v35,p35,h⟩:=bs h
   exact j.zn [(8,0),(9,1)] h
  have h:=lo h hx11
  exact flz h
 refine Ka ?_
 refine j.zh 1 [(8,0)] λ j=>?_
 refine j.store (sb:=8) 0 FldS.id Z Z Z kT62 Z Z (tp Z) Z [] Z [] Z Z (λ _ _ j=>Kb ?_)
 exact j.ret_box h
def jA(x0:Tree)(x1:List Int)(x2:Str):Option Spec:=
(xg x0).bind λ v3=>
(gO ((!v3) == false) (wo x1)).bind λ v4=>
(gO (((!v3)||(!v4)) == false) (z7 x2)).bind λ v5=>
if(((!v3)||(!v4))||(!v5))=true then((jj).bind λ v12=>
some v12)
else((YN x0 x1 x2).bind λ v16=>
some v16)
theorem Wj{r:Spec}(h:jA x0 x1 x2=some r):Fn prog 35 [dt x0,dt x1,dt x2] (dt r):=by
 refine fq1 1 func35 λ M _ _ j=>?_
 refine Ka ?_
 refine j.zg 1 λ j=>?_
 refine j.alloc 0 Z Z kZ62 WP (gl Z) [1,2,3] Z [] Z Z (λ b2 _ _ _ j=>Kb ?_)
 have⟨v3,p3,v4,p4,h⟩:=Kg h
 have⟨v5,p5,h⟩:=bs h
 refine j.zd [(6,0)] h (λ j h=>?_) (λ j h=>?_) (hs:=sZ 1 (r:=by exact sc Z (oK (jN p3))<|sZ 3 (r:=by exact sg Z Z (λ hg=>oK (Zh (gh hg p4)))<|sZ 4 (r:=by exact sg Z Z (λ hg=>oK (xN (gh hg p5)))<|segZ))))
 ·refine Ka ?_
  have⟨v12,p12,h⟩:=bs h
  refine j.zh 1 [(6,0)] λ j=>?_
  refine j.store (sb:=6) 0 FldS.id Z Z Z kT62 Z Z (tp Z) Z [] Z [] Z Z (λ _ _ j=>Kb ?_)
  exact j.ret_box h
 refine Ka ?_
 have⟨v16,p16,h⟩:=bs h
 refine j.zh 4 [(6,0)] (λ j=>?_) (hs:=sZ 3 (r:=by exact sc Z (zA (l:=[.tmp 21,.tmp 22,.tmp 23,.const .nilFunc]) Z (.cons T (.cons T (.cons T (.cons cNil .nil)))) (zdV p16))<|.nil))
 refine j.store (sb:=6) 0 FldS.id Z Z Z kT62 Z Z (tp Z) Z [] Z [] Z Z (λ _ _ j=>Kb ?_)
 exact j.ret_box h
instance:Ct3 prog 35 dt dt dt dt jA:=⟨λ h=>Wj h⟩
def Yc(x0:Tree)(x1:List Int)(x2:Str):Option Bool:=
(jA x0 x1 x2).bind λ v2=>
some (cmpI .neq v2.kind 0)
theorem zem{r:Bool}(h:Yc x0 x1 x2=some r):Fn prog 71 [dt x0,dt x1,dt x2] (dt r):=by
 refine fq1 0 func71 λ M _ _ j=>?_
 refine j.z1 λ j=>?_
 have⟨v2,p2,h⟩:=bs h
 exact j.ze h (hs:=sZ 3 (r:=by exact sc Z (oK (Wj p2))<|sc Z (WA Spec.fld0 Z Z T)<|segZ))
instance:Ct3 prog 71 dt dt dt dt Yc:=⟨λ h=>zem h⟩
theorem kN134:fnB prog 134=true:=by kernel_rfl
theorem kN135:fnB prog 135=true:=by kernel_rfl
theorem kN103:fnB prog 103=true:=by kernel_rfl
theorem kN104:fnB prog 104=true:=by kernel_rfl
def ZN(x0:List Str):Option (List Str):=
(wx x0).bind λ v4=>
(xM v4).bind λ v8=>
(appO 16 [] v8).bind λ v11=>
some v11
theorem YF{x0:List Str}(h:ZN x0=some r):zbr prog 103 9 x0 [] r:=by
 refine fnxT (fn:=f103) 1 2 func103 Z (oD Z) Z (λ M g _ _ j=>wqw ?_)
 refine j.zo [(0,1)] (λ j=>?_) (hs:=sc Z (oA Z (jy (α:=Str) (e:=9)))<|.nil)
 refine Ka ?_
 refine j.zh 1 [(0,1),(3,1)] λ j=>?_
 have⟨v4,p4,h⟩:=bs h
 refine j.inpl (sb:=0) 1 Z Z kN134 Z Z Z (Wt p4) [] Z [] Z Z ⟨Z,Z,by decide⟩ (λ _ _ _ j=>Kb ?_)
 refine Ka ?_
 refine j.zh 2 [(5,0),(6,1)] (λ j=>?_) (hs:=sc Z (wA (α:=Str) (e:=9) Z)<|segZ)
 have⟨v8,p8,h⟩:=bs h
 refine j.take (l:=[]) 1 Z Z kN135 Z Z .nil (XJ p8) [] Z [5] Z Z λ g7 _ _ _ j=>?_
 have⟨v11,p11,h⟩:=bs h
 refine j.app 0 Z Z kE24 Z Z Z row_tip p11 [] Z [] Z Z λ g10 _ _ _ j=>?_
 refine j.zh 1 [(2,0)] (λ j=>Kb ?_)
 exact j.ret_take 0 Z Z (λ _ h=>h) h
def wr(x0:Str)(v4:List Str)(s7:(List Str)×Int):Option (((List Str)×Int)⊕(List Str)):=
if(cmpI .lss s7.2 (v4.length:Int))=true then((jT x0).bind λ v13=>
(i64 (s7.2+(1:Int))).bind λ v14=>
(JJ v13 v14).bind λ v15=>
(y7 v15 (⟨[46]⟩:Str)).bind λ v16=>
(appO 16 s7.1 ([v16]:List Str)).bind λ v23=>
(i64 (s7.2+(1:Int))).bind λ v26=>
some (.inl (v23,v26)))
else(some (.inr s7.1))
def ZW(x0:Str):Option (List Str):=
Option.bind (α:=(List Str)) ((jT x0).bind λ v4=>
zP (λ s7=>wr x0 v4 s7) ([],(0:Int))) λ o3=>
some o3
theorem zce{x0:Str}(h:ZW x0=some r):FnOwn prog 137 [dt x0] 9 r:=by
 refine fqO 1 func137 λ M w0 _ j=>?_
 refine j.z1 (λ j=>?_) (hs:=sc Z (oA Z (jy (α:=Str) (e:=9)))<|.nil)
 refine j.zo [(3,0)] (λ j=>?_) (hs:=sc Z (wA (α:=Str) (e:=9) Z)<|segZ)
 refine za ?_
 refine j.jmq 1 [] (λ _=>[]) (λ o3 q=>[(3,0,dtip (q 0) 9 o3)]) h (λ o3 p3=>?_) λ o3 q3 _ _ _ j h=>?_
 ·obtain⟨v4,p4,h⟩:=bsW p3 Xr
  refine j.zo [(3,0)] λ j=>?_
  refine j.lpq 1 [0,8] (λ s7=>[(9,dt s7.2)]) (λ s7 q=>[(3,0,dtip (q 0) 9 s7.1)]) h λ s7 x7 q7 _ _ _ j h hx7=>?_
  refine j.zd [(3,0)] h (λ j h=>?_) λ j h=>?_
  ·refine j.zo [(3,0)] (λ j=>Ka ?_)
   have⟨v13,p13,v14,p14,h⟩:=Kg h
   have⟨v15,p15,v16,p16,h⟩:=Kg h
   refine j.zh 8 [(3,0),(12,0)] (λ j=>?_) (hs:=sZ 2 (r:=by exact sc Z (oK (Xr p13))<|sZ 2 (r:=by exact sc Z (za1 Z T T p15)<|sc Z (oK (Z6 p16))<|sc Z (yf (opds:=[.tmp 18]) Z Z Z (.cons T .nil))<|.nil)))
   have⟨v23,p23,h⟩:=bs h
   refine j.app 0 Z Z kE24 Z Z Z xv p23 [0,8,9] Z [] Z Z λ g22 _ _ _ j=>?_
   refine j.zh 1 [(3,0)] (λ j=>Kb ?_)
   have⟨v26,p26,h⟩:=bs h
   exact j.zn [(3,0)] h
  have h:=lo h hx7
  cases h
  exact fz
 exact j.zl 0 h
def qY(x0:Tree)(s10:(List Str)×Int):Option (((List Str)×Int)⊕(List Str)):=
if(cmpI .lss s10.2 (x0.files.length:Int))=true then((atI x0.files s10.2).bind λ v15=>
(ZC v15).bind λ v20=>
(appO 16 s10.1 ([v20]:List Str)).bind λ v24=>
(i64 (s10.2+(1:Int))).bind λ v27=>
some (.inl (v24,v27)))
else(some (.inr s10.1))
def Yn(x0:Tree):Option (List Str):=
Option.bind (α:=(List Str)) ((xg x0).bind λ v4=>
if v4=true then(zP (λ s10=>qY x0 s10) ([],(0:Int)))
else(some [])) λ o3=>
(ZN o3).bind λ v34=>
some v34
theorem XK(h:Yn x0=some r):FnOwn prog 104 [dt x0] 9 r:=by
 refine fqO 2 func104 λ M w0 _ j=>?_
 refine j.z1 (λ j=>?_) (hs:=sZ 1 (r:=by exact sc Z (oA Z (jy (α:=Str) (e:=9)))<|.nil))
 refine j.zo [(3,0)] (λ j=>?_) (hs:=sc Z (wA (α:=Str) (e:=9) Z)<|segZ)
 refine za ?_
 refine j.jmq 2 [] (λ _=>[]) (λ o3 q=>[(3,0,dtip (q 0) 9 o3)]) h (λ o3 p3=>?_) λ o3 q3 _ _ _ j h=>?_
 ·obtain⟨v4,p4,h⟩:=bsW p3 jN
  refine j.zd [(3,0)] h (λ j h=>?_) λ j h=>?_
  ·refine j.zo [(3,0)] λ j=>?_
   refine j.lpq 2 [10,11] (λ s10=>[(12,dt s10.2)]) (λ s10 q=>[(3,0,dtip (q 0) 9 s10.1)]) h λ s10 x10 q10 _ _ _ j h hx10=>?_
   refine j.zd [(3,0)] h (λ j h=>?_) λ j h=>?_
   ·refine Ka ?_
    have⟨v15,p15,h⟩:=bs h
    refine j.zh 2 [(3,0)] λ j=>?_
    refine j.alloc 1 Z Z kZ71 zbx (gl Z) [10,11,12,15] Z [3] Z Z λ b18 _ _ _ j=>?_
    refine j.store (sb:=5) 1 FldS.id Z Z Z kT71 Z Z (tp Z) Z [10,11,12] Z [3] Z Z (λ _ _ j=>Kb ?_)
    refine Ka ?_
    have⟨v20,p20,h⟩:=bs h
    refine j.zh 4 [(3,0),(16,0)] λ j=>?_
    have⟨v24,p24,h⟩:=bs h
    refine j.app 0 Z Z kE24 Z Z Z xv p24 [10,11,12] Z [] Z Z λ g23 _ _ _ j=>?_
    refine j.zh 1 [(3,0)] (λ j=>Kb ?_)
    have⟨v27,p27,h⟩:=bs h
    exact j.zn [(3,0)] h
   have h:=lo h hx10
   cases h
   exact fz
  cases h
  exact fz
 refine Ka ?_
 refine j.zh 1 [(22,0)] λ j=>?_
 have⟨v34,p34,h⟩:=bs h
 refine j.take (l:=[]) 0 Z Z kN103 Z Z .nil (YF p34) [] Z [] Z Z λ g33 _ _ _ j=>?_
 refine j.zh 1 [(2,0)] (λ j=>Kb ?_)
 exact j.ret_own 0 h
def qz(x0:Tree)(s10:(List Str)×Int):Option (((List Str)×Int)⊕(List Str)):=
if(cmpI .lss s10.2 (x0.files.length:Int))=true then((atI x0.files s10.2).bind λ v15=>
(ZW v15.pkg).bind λ v20=>
(appO 16 s10.1 v20).bind λ v24=>
(i64 (s10.2+(1:Int))).bind λ v27=>
some (.inl (v24,v27)))
else(some (.inr s10.1))
def ZX(x0:Tree):Option (List Str):=
Option.bind (α:=(List Str)) ((xg x0).bind λ v4=>
if v4=true then(zP (λ s10=>qz x0 s10) ([],(0:Int)))
else(some [])) λ o3=>
(ZN o3).bind λ v34=>
some v34
theorem Xu(h:ZX x0=some r):FnOwn prog 105 [dt x0] 9 r:=by
 refine fqO 2 func105 λ M w0 _ j=>?_
 refine j.z1 (λ j=>?_) (hs:=sZ 1 (r:=by exact sc Z (oA Z (jy (α:=Str) (e:=9)))<|.nil))
 refine j.zo [(3,0)] (λ j=>?_) (hs:=sc Z (wA (α:=Str) (e:=9) Z)<|segZ)
 refine za ?_
 refine j.jmq 2 [] (λ _=>[]) (λ o3 q=>[(3,0,dtip (q 0) 9 o3)]) h (λ o3 p3=>?_) λ o3 q3 _ _ _ j h=>?_
 ·obtain⟨v4,p4,h⟩:=bsW p3 jN
  refine j.zd [(3,0)] h (λ j h=>?_) λ j h=>?_
  ·refine j.zo [(3,0)] λ j=>?_
   refine j.lpq 2 [10,11] (λ s10=>[(12,dt s10.2)]) (λ s10 q=>[(3,0,dtip (q 0) 9 s10.1)]) h λ s10 x10 q10 _ _ _ j h hx10=>?_
   refine j.zd [(3,0)] h (λ j h=>?_) λ j h=>?_
   ·refine Ka ?_
    have⟨v15,p15,h⟩:=bs h
    refine j.zh 2 [(3,0)] λ j=>?_
    refine j.alloc 1 Z Z kZ71 zbx (gl Z) [10,11,12,15] Z [3] Z Z λ b18 _ _ _ j=>?_
    refine j.store (sb:=5) 1 FldS.id Z Z Z kT71 Z Z (tp Z) Z [10,11,12] Z [3] Z Z (λ _ _ j=>Kb ?_)
    refine Ka ?_
    have⟨v20,p20,h⟩:=bs h
    refine j.zh 4 [(3,0),(16,0)] (λ j=>?_) (hs:=sZ 1 (r:=by exact sc Z (yM File.fld1 Z (ht:=zc0) T)<|sc Z (yx Z T)<|sc Z (zA (l:=[.tmp 18]) Z (.cons T .nil) ((zce p20)).fn)<|.nil))
    have⟨v24,p24,h⟩:=bs h
    refine j.app 0 Z Z kE24 Z Z Z xv p24 [10,11,12] Z [] Z Z λ g23 _ _ _ j=>?_
    refine j.zh 1 [(3,0)] (λ j=>Kb ?_)
    have⟨v27,p27,h⟩:=bs h
    exact j.zn [(3,0)] h
   have h:=lo h hx10
   cases h
   exact fz
  cases h
  exact fz
 refine Ka ?_
 refine j.zh 1 [(22,0)] λ j=>?_
 have⟨v34,p34,h⟩:=bs h
 refine j.take (l:=[]) 0 Z Z kN103 Z Z .nil (YF p34) [] Z [] Z Z λ g33 _ _ _ j=>?_
 refine j.zh 1 [(2,0)] (λ j=>Kb ?_)
 exact j.ret_own 0 h
def YO(x0:Tree):Option (List Str):=
(Yn x0).bind λ v4=>
(ZX x0).bind λ v7=>
(appO 16 v4 v7).bind λ v10=>
(ZN v10).bind λ v13=>
some v13
theorem zdW(h:YO x0=some r):FnOwn prog 70 [dt x0] 9 r:=by
 refine fqO 1 func70 λ M _ _ y=>?_
 refine y.z1 (λ y=>?_) (hs:=sZ 1 (r:=by exact sc Z (oA Z (jy (α:=Str) (e:=9)))<|.nil))
 have⟨v4,p4,v7,p7,h⟩:=Kg h
 have⟨v10,p10,v13,p13,h⟩:=Kg h
 refine y.any yc λ _ y=>?_
 refine an2 (i:=0) (j:=2) Z Z ?_ ?_
 ·refine y.zg 1 (λ y=>anN ?_)
  refine an2 (i:=1) (j:=2) Z Z ?_ ?_
  ·refine y.own (l:=[.tmp 3]) 0 Z Z kN104 (.cons T .nil) (XK p4) (gl Z) [1] Z [] Z Z (λ g22 _ _ _ y=>anN ?_)
   refine an1 (i:=2) Z ?_
   refine y.zh 1 [(4,0)] (λ y=>anN ?_)
   refine an1 (i:=3) Z ?_
   refine y.zh 1 [(4,0)] (λ y=>?_) (hs:=sc Z (zA (l:=[.tmp 5]) Z (.cons T .nil) ((Xu p7)).fn)<|.nil)
   refine anN ?_
   refine an1 (i:=4) Z ?_
   refine y.app 0 Z Z kE24 Z Z Z xv p10 [] Z [] Z Z (λ g25 _ _ _ y=>anN ?_)
   refine an1 (i:=5) Z ?_
   refine y.take (l:=[]) 0 Z Z kN103 Z Z .nil (YF p13) [] Z [] Z Z (λ g26 _ _ _ y=>anN ?_)
   refine an1 (i:=6) Z ?_
   refine y.zh 1 [(2,0)] (λ y=>anN ?_)
   refine an0 ?_
   exact y.ret_own 0 h
  ·refine y.zg 1 (λ y=>anN ?_)
   refine an1 (i:=1) Z ?_
   refine y.own (l:=[.tmp 3]) 0 Z Z kN104 (.cons T .nil) (XK p4) (gl Z) [5] Z [] Z Z (λ g29 _ _ _ y=>anN ?_)
   refine an1 (i:=3) Z ?_
   refine y.zh 1 [(4,0)] (λ y=>?_) (hs:=sc Z (zA (l:=[.tmp 5]) Z (.cons T .nil) ((Xu p7)).fn)<|.nil)
   refine anN ?_
   refine an1 (i:=4) Z ?_
   refine y.app 0 Z Z kE24 Z Z Z xv p10 [] Z [] Z Z (λ g31 _ _ _ y=>anN ?_)
   refine an1 (i:=5) Z ?_
   refine y.take (l:=[]) 0 Z Z kN103 Z Z .nil (YF p13) [] Z [] Z Z (λ g32 _ _ _ y=>anN ?_)
   refine an1 (i:=6) Z ?_
   refine y.zh 1 [(2,0)] (λ y=>anN ?_)
   refine an0 ?_
   exact y.ret_own 0 h
 ·refine y.zg 1 (λ y=>anN ?_)
  refine an1 (i:=0) Z ?_
  refine y.zg 1 (λ y=>anN ?_)
  refine an1 (i:=1) Z ?_
  refine y.own (l:=[.tmp 3]) 0 Z Z kN104 (.cons T .nil) (XK p4) (gl Z) [5] Z [] Z Z (λ g36 _ _ _ y=>anN ?_)
  refine an1 (i:=3) Z ?_
  refine y.zh 1 [(4,0)] (λ y=>?_) (hs:=sc Z (zA (l:=[.tmp 5]) Z (.cons T .nil) ((Xu p7)).fn)<|.nil)
  refine anN ?_
  refine an1 (i:=4) Z ?_
  refine y.app 0 Z Z kE24 Z Z Z xv p10 [] Z [] Z Z (λ g38 _ _ _ y=>anN ?_)
  refine an1 (i:=5) Z ?_
  refine y.take (l:=[]) 0 Z Z kN103 Z Z .nil (YF p13) [] Z [] Z Z (λ g39 _ _ _ y=>anN ?_)
  refine an1 (i:=6) Z ?_
  refine y.zh 1 [(2,0)] (λ y=>anN ?_)
  refine an0 ?_
  exact y.ret_own 0 h
def wt(x0:Tree)(x1:List Int)(v4:List Str)(s7:(List Str)×Int):Option (((List Str)×Int)⊕(List Str)):=
if(cmpI .lss s7.2 (v4.length:Int))=true then(Option.bind (α:=(List Str)) ((atI v4 s7.2).bind λ v13=>
(Yc x0 x1 v13).bind λ v16=>
if v16=true then((appO 16 s7.1 ([v13]:List Str)).bind λ v23=>
some v23)
else(some s7.1)) λ o12=>
(i64 (s7.2+(1:Int))).bind λ v27=>
some (.inl (o12,v27)))
else(some (.inr s7.1))
def ZY(x0:Tree)(x1:List Int):Option (List Str):=
Option.bind (α:=(List Str)) ((YO x0).bind λ v4=>
zP (λ s7=>wt x0 x1 v4 s7) ([],(0:Int))) λ o3=>
some o3
theorem zcf(h:ZY x0 x1=some r):FnOwn prog 31 [dt x0,dt x1] 9 r:=by
 refine fqO 1 func31 λ M w0 _ j=>?_
 refine j.z1 (λ j=>?_) (hs:=sZ 1 (r:=by exact sc Z (oA Z (jy (α:=Str) (e:=9)))<|.nil))
 refine j.zo [(5,0)] (λ j=>?_) (hs:=sc Z (wA (α:=Str) (e:=9) Z)<|segZ)
 refine za ?_
 refine j.jmq 1 [] (λ _=>[]) (λ o3 q=>[(5,0,dtip (q 0) 9 o3)]) h (λ o3 p3=>?_) λ o3 q3 _ _ _ j h=>?_
 ·have⟨v4,p4,h⟩:=bs p3
  refine j.zo [(5,0)] (λ j=>?_) (hs:=sZ 1 (r:=by exact sc Z (zA (l:=[.tmp 9]) Z (.cons T .nil) ((zdW p4)).fn)<|segZ))
  refine j.lpq 1 [1,2,10,11] (λ s7=>[(12,dt s7.2)]) (λ s7 q=>[(5,0,dtip (q 0) 9 s7.1)]) h λ s7 x7 q7 _ _ _ j h hx7=>?_
  refine j.zd [(5,0)] h (λ j h=>?_) λ j h=>?_
  ·refine wqk ?_
   refine za ?_
   refine j.jmq 1 [1,2,10,11,12] (λ _=>[]) (λ o12 q=>[(5,0,dtip (q 0) 9 o12)]) h (λ o12 p12=>?_) λ o12 q12 _ _ _ j h=>?_
   ·have⟨v13,p13,h⟩:=bs p12
    refine j.zo [(5,0)] λ j=>?_
    have⟨v16,p16,h⟩:=bs h
    refine j.zd [(5,0)] h (λ j h=>?_) λ j h=>?_
    ·refine Ka ?_
     refine j.zh 3 [(5,0),(20,0)] λ j=>?_
     have⟨v23,p23,h⟩:=bs h
     refine j.app 0 Z Z kE24 Z Z Z xv p23 [1,2,10,11,12] Z [] Z Z λ g22 _ _ _ j=>?_
     refine j.zh 1 [(5,0)] (λ j=>Kb ?_)
     cases h
     exact fz
    cases h
    exact fz
   have⟨v27,p27,h⟩:=bs h
   exact j.zn [(5,0)] h
  have h:=lo h hx7
  cases h
  exact fz
 exact j.zl 0 h
end Go.Proofs.YtifgdhfcoaognaaGreatDoor
