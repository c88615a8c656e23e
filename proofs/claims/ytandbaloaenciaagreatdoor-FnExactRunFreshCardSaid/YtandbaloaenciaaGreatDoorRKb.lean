import Derived.Test.YtandbaloaenciaaGreatDoorRO
import Derived.Test.YtandbaloaenciaaGreatDoorRH
import Derived.Test.YtandbaloaenciaaGreatDoorRB
import Derived.Test.YtandbaloaenciaaGreatDoorRK
namespace Go.Proofs.YtandbaloaenciaaGreatDoor
open Go.RowKit Tryz
attribute [local irreducible] OpRel OpdR
set_option maxRecDepth 10000
set_option maxHeartbeats 1600000
variable{x0:Disk}{r:Disk×Bool}{x1 x2:Int}{x3:List Stmt}{R:Rec}{x4:Warmth}
theorem kD235_0_1_2:∀ {M:Nat->Prop} {look:Nat->Option Dt} {o:Oper} {q0 q1 q2:Operand} {y0:Int} {y1:Str} {y2:Int},o.op=.build 235 #[(0,q0),(1,q1),(2,q2)]->OpdR M look q0 (dt y0)->OpdR M look q1 (dt y1)->OpdR M look q2 (dt y2)->OpRel prog M look o (dt (⟨y0,y1,y2,[]⟩:Dir)):=@λ _ _ _ q0 q1 q2 y0 y1 y2 ho h0 h1 h2=>zT (parts:=[(0,q0),(1,q1),(2,q2)]) (ns:=[1,1,1,1]) (zs:=zpDir) Z ho (λ w a hl=>FA ⟨(by decide:0<4),Rep.len (α:=Int) (OpdR.cells h0 hl)⟩ (FA ⟨(by decide:1<4),Rep.len (α:=Str) (OpdR.cells h1 hl)⟩ (FA ⟨(by decide:2<4),Rep.len (α:=Int) (OpdR.cells h2 hl)⟩ FN))) (λ w a hl=>Dir.parts (x:=(⟨y0,y1,y2,[]⟩:Dir)) (OpdR.cells h0 hl) (OpdR.cells h1 hl) (OpdR.cells h2 hl) yj)
theorem kN212:fnB prog 212=true:=by kernel_rfl
theorem kF132_1:fldB prog 132 1 1=true:=by kernel_rfl
theorem kN74:fnB prog 74=true:=by kernel_rfl
instance iF235_2RfB:FldO prog 235 2 2:=⟨kF235_2⟩
instance iF36_0RfB:FldO prog 36 0 0:=⟨jq⟩
instance iF59_4RfB:FldO prog 59 4 4:=⟨kF59_4⟩
instance iF59_5RfB:FldO prog 59 5 5:=⟨kF59_5⟩
instance iF64_1RfB:FldO prog 64 1 1:=⟨zam⟩
instance iF64_2RfB:FldO prog 64 2 2:=⟨Xs⟩
def Zh(x0:Stmt):Option Bool:=
if cmpI .eql x0.kind 0 then((ye x0.module).bind λ v6=>
some (((v6&&cmpI .eql x0.level 0)&&decide (x0.name=(⟨[]⟩:Str)))&&cmpI .eql x0.value 0))
else(if cmpI .eql x0.kind 1 then((yJ x0.module).bind λ v12=>
(gO (v12 == true) (z7 x0.level (0:Int) (3:Int))).bind λ v13=>
(gO (((v12&&v13)&&(decide (x0.module≠(⟨[]⟩:Str))||cmpI .gtr x0.level 0)) == true) (xV x0.name)).bind λ v14=>
some ((((v12&&v13)&&(decide (x0.module≠(⟨[]⟩:Str))||cmpI .gtr x0.level 0))&&v14)&&cmpI .eql x0.value 0))
else(if cmpI .eql x0.kind 2 then((ye x0.module).bind λ v22=>
some (((v22&&cmpI .eql x0.level 0)&&decide (x0.name=(⟨[]⟩:Str)))&&cmpI .eql x0.value 0))
else(if cmpI .eql x0.kind 3 then((gO ((decide (x0.module=(⟨[]⟩:Str))&&cmpI .eql x0.level 0) == true) (xV x0.name)).bind λ v28=>
(gO (((decide (x0.module=(⟨[]⟩:Str))&&cmpI .eql x0.level 0)&&v28) == true) (z7 x0.value (0:Int) (99:Int))).bind λ v29=>
some (((decide (x0.module=(⟨[]⟩:Str))&&cmpI .eql x0.level 0)&&v28)&&v29))
else(if cmpI .eql x0.kind 4 then((gO ((decide (x0.module=(⟨[]⟩:Str))&&cmpI .eql x0.level 0) == true) (xV x0.name)).bind λ v36=>
some (((decide (x0.module=(⟨[]⟩:Str))&&cmpI .eql x0.level 0)&&v36)&&cmpI .eql x0.value 0))
else(if cmpI .eql x0.kind 5 then(some (decide (x0=(⟨(5:Int),⟨[]⟩,0,⟨[]⟩,0⟩:Stmt))))
else(some false))))))
theorem zcO{x0:Stmt}{r:Bool}(h:Zh x0=some r):Fn prog 152 [dt x0] (dt r):=by
 refine fq1 0 func152 λ M _ _ j=>?_
 refine j.z1 λ _ _ j=>?_
 refine j.z1 λ _ _ j=>?_
 refine j.zc h (λ _ _ j h=>?_) λ _ _ j h=>?_
 ·have⟨v6,p6,h⟩:=bs h
  exact j.ze h
 refine j.zc h (λ _ _ j h=>?_) λ _ _ j h=>?_
 ·have⟨v12,p12,h⟩:=bs h
  have⟨v13,p13,v14,p14,h⟩:=Kg h
  exact j.ze h (hs:=sZ 2 (r:=by exact sc Z (oK (qP p12))<|sZ 3 (r:=by exact sg Z Z (λ hg=>oK (ym (gh hg p13)))<|sZ 5 (r:=by exact sg Z Z (λ hg=>oM Z (zk hg Z))<|sgg Z Z (λ hg=>zA Stmt.fld2 Z (ht:=zbZ) (tp Z))<|sgg Z Z (λ hg=>zr Z (zk hg Z))<|sgg Z Z (λ hg=>oCI Z (zk hg Z) cI)<|sg Z Z (λ hg=>jX Z (zk hg Z) (zcD hg Z))<|sZ 4 (r:=by exact sg Z Z (λ hg=>oK (qZ (gh hg p14)))<|segZ)))))
 refine j.zc h (λ _ _ j h=>?_) λ _ _ j h=>?_
 ·have⟨v22,p22,h⟩:=bs h
  exact j.ze h
 refine j.zc h (λ _ _ j h=>?_) λ _ _ j h=>?_
 ·have⟨v28,p28,h⟩:=bs h
  have⟨v29,p29,h⟩:=bs h
  exact j.ze h (hs:=sZ 11 (r:=by exact sg Z Z (λ hg=>oK (qZ (gh hg p28)))<|sZ 4 (r:=by exact sg Z Z (λ hg=>oK (ym (gh hg p29)))<|segZ)))
 refine j.zc h (λ _ _ j h=>?_) λ _ _ j h=>?_
 ·have⟨v36,p36,h⟩:=bs h
  exact j.ze h (hs:=sZ 11 (r:=by exact sg Z Z (λ hg=>oK (qZ (gh hg p36)))<|segZ))
 refine j.zc h (λ _ _ j h=>?_) λ _ _ j h=>?_
 ·exact j.ze h (hs:=sZ 1 (r:=by exact sc Z (kD177_0 Z cI)<|sc Z (WN Z (tp Z) (tp Z))<|segZ))
 exact j.ze h
instance:Ct1 prog 152 dt dt Zh:=⟨λ h=>zcO h⟩
def wr(x0:List Stmt)(s4:Int):Option (Int⊕(Unit⊕Bool)):=
if(cmpI .lss s4 (x0.length:Int))=true then((atI x0 s4).bind λ v9=>
(Zh v9).bind λ v10=>
if(!v10)=true then(some (.inr (.inr false)))
else((i64 (s4+(1:Int))).bind λ v19=>
some (.inl v19)))
else(some (.inr (.inl ())))
def yO(x0:List Stmt):Option Bool:=
Option.bind (α:=Unit⊕Bool) (zE (λ s4=>wr x0 s4) (0:Int)) (Sum.elim (λ _b2=>
some (cmpI .leq (x0.length:Int) 8)) some)
theorem XU{x0:List Stmt}{r:Bool}(h:yO x0=some r):Fn prog 112 [dt x0] (dt r):=by
 refine fq1 0 func112 λ M w0 _ j=>?_
 refine j.z1 (λ _ _ j=>za ?_)
 refine j.jb [0] (λ _=>[]) h (λ o2 p2 k2=>?_) λ b2 _ _ j h=>?_
 ·refine j.z1 λ _ _ j=>?_
  refine wql p2 (λ s4 a w=>Sx (Frm.of w0) 19 M M [] [(0,dt x0),(3,dt s4)] [] a w) (j.sel0 [0,3]) ?_
  rintro s4 z4 _ _ j hs4 hx4
  have h:wr x0 s4=some z4:=hs4
  unfold wr at h
  refine j.zc h (λ _ _ j h=>?_) λ _ _ j h=>?_
  ·have⟨v9,p9,h⟩:=bs h
   have⟨v10,p10,h⟩:=bs h
   refine j.zc h (λ _ _ j h=>?_) λ _ _ j h=>?_
   ·exact j.ze (jo (lo h hx4) k2)
   have⟨v19,p19,h⟩:=bs h
   exact j.zn [] h
  have h:=lo h hx4
  exact flz h
 exact j.ze h
instance:Ct1 prog 112 dt dt yO:=⟨λ h=>XU h⟩
def Zi(x0:File):Option Bool:=
(z7 x0.root (0:Int) (2:Int)).bind λ v2=>
(gO ((!v2) == false) (z7 x0.stamp (0:Int) (99:Int))).bind λ v3=>
(gO (((!v2)||(!v3)) == false) (yJ x0.pkg)).bind λ v4=>
(gO ((((!v2)||(!v3))||(!v4)) == false) (yO x0.body)).bind λ v5=>
if((((!v2)||(!v3))||(!v4))||(!v5))=true then(some false)
else(if x0.init=true then(some (decide (x0.pkg≠(⟨[]⟩:Str))&&decide (x0.name=(⟨[]⟩:Str))))
else((xV x0.name).bind λ v18=>
(gO (v18 == true) (jr x0.pkg x0.name)).bind λ v19=>
(gO (v18 == true) (ye v19)).bind λ v20=>
some (v18&&v20)))
theorem zcP{x0:File}{r:Bool}(h:Zi x0=some r):Fn prog 111 [dt x0] (dt r):=by
 refine fq1 0 func111 λ M _ _ j=>?_
 refine j.z1 λ _ _ j=>?_
 have⟨v2,p2,v3,p3,h⟩:=Kg h
 have⟨v4,p4,v5,p5,h⟩:=Kg h
 refine j.zc h (λ _ _ j h=>?_) (λ _ _ j h=>?_) (hs:=sZ 2 (r:=by exact sc Z (oK (ym p2))<|sZ 4 (r:=by exact sg Z Z (λ hg=>oK (ym (gh hg p3)))<|sZ 5 (r:=by exact sg Z Z (λ hg=>oK (qP (gh hg p4)))<|sZ 5 (r:=by exact sg Z Z (λ hg=>oK (XU (gh hg p5)))<|segZ)))))
 ·exact j.ze h
 refine j.zc h (λ _ _ j h=>?_) λ _ _ j h=>?_
 ·exact j.ze h
 have⟨v18,p18,v19,p19,h⟩:=Kg h
 have⟨v20,p20,h⟩:=bs h
 exact j.ze h (hs:=sZ 2 (r:=by exact sc Z (oK (qZ p18))<|sZ 5 (r:=by exact sg Z Z (λ hg=>oK (Qo (gh hg p19)))<|sg Z Z (λ hg=>oK (Ys (gh hg p20)))<|segZ)))
instance:Ct1 prog 111 dt dt Zi:=⟨λ h=>zcP h⟩
def ws(x0:List GAct)(s4:Int):Option (Int⊕(Unit⊕Bool)):=
if(cmpI .lss s4 (x0.length:Int))=true then(Option.bind (α:=Unit⊕(Int⊕(Unit⊕Bool))) ((atI x0 s4).bind λ v10=>
if cmpI .eql v10.kind 0 then((Zi v10.file).bind λ v21=>
if(!v21)=true then(some (.inr (.inr (.inr false))))
else(some (.inl ())))
else(if cmpI .eql v10.kind 1 then(some (.inl ()))
else(if cmpI .eql v10.kind 2 then((yO v10.file.body).bind λ v36=>
if(!v36)=true then(some (.inr (.inr (.inr false))))
else(some (.inl ())))
else(if cmpI .eql v10.kind 3 then((ye v10.name).bind λ v48=>
if(!v48)=true then(some (.inr (.inr (.inr false))))
else(some (.inl ())))
else(some (.inr (.inr (.inr false)))))))) (Sum.elim (λ _b9=>
(i64 (s4+(1:Int))).bind λ v62=>
some (.inl v62)) some))
else(some (.inr (.inl ())))
def Zj(x0:List GAct):Option Bool:=
Option.bind (α:=Unit⊕Bool) (zE (λ s4=>ws x0 s4) (0:Int)) (Sum.elim (λ _b2=>
some (cmpI .leq (x0.length:Int) 20)) some)
theorem J4{x0:List GAct}{r:Bool}(h:Zj x0=some r):Fn prog 70 [dt x0] (dt r):=by
 refine fq1 1 func70 λ M w0 _ j=>?_
 refine j.z1 (λ _ _ j=>za ?_)
 refine j.jbq 1 [0] (λ _=>[]) (λ _ _=>[]) h (λ o2 p2 k2=>?_) λ b2 q2 _ _ _ j h=>?_
 ·refine j.z1 λ _ _ j=>?_
  refine wql p2 (λ s4 a w=>∃ M1 Q,Sx (Frm.of w0) 41 M M1 [oneB Q] [(0,dt x0),(3,dt s4)] [] a w) fx ?_
  rintro s4 z4 _ _ ⟨_,Q,j⟩ hs4 hx4
  have h:ws x0 s4=some z4:=hs4
  unfold ws at h
  refine j.zc h (λ _ _ j h=>?_) λ _ _ j h=>?_
  ·refine wqk (za ?_)
   refine j.jbq 1 [0,3] (λ _=>[]) (λ _ _=>[]) h (λ o9 p9 k9=>?_) λ b9 q9 _ _ _ j h=>?_
   ·refine Ka ?_
    have⟨v10,p10,h⟩:=bs p9
    refine j.zg 4 λ _ _ j=>?_
    refine j.alA 0 zrGAct [0,3,14] [] λ b14 _ _ _ j=>?_
    refine j.stA 4 0 FldS.id (tp Z) [0,3] [] (λ _ _ j=>Kb ?_)
    refine j.zo [(4,0)] λ _ _ j=>?_
    refine j.zd [(4,0)] h (λ _ _ j h=>?_) λ _ _ j h=>?_
    ·have⟨v21,p21,h⟩:=bs h
     refine j.zc h (λ _ _ j h=>?_) λ _ _ j h=>?_
     ·exact j.ze (jo (lo (jo h k9) hx4) k2)
     exact flz h
    refine j.zd [(4,0)] h (λ _ _ j h=>?_) λ _ _ j h=>?_
    ·exact flz h
    refine j.zd [(4,0)] h (λ _ _ j h=>?_) λ _ _ j h=>?_
    ·have⟨v36,p36,h⟩:=bs h
     refine j.zc h (λ _ _ j h=>?_) λ _ _ j h=>?_
     ·exact j.ze (jo (lo (jo h k9) hx4) k2)
     exact flz h
    refine j.zd [(4,0)] h (λ _ _ j h=>?_) λ _ _ j h=>?_
    ·have⟨v48,p48,h⟩:=bs h
     refine j.zc h (λ _ _ j h=>?_) λ _ _ j h=>?_
     ·exact j.ze (jo (lo (jo h k9) hx4) k2)
     exact flz h
    exact j.ze (jo (lo (jo h k9) hx4) k2)
   have⟨v62,p62,h⟩:=bs h
   exact j.zn [] h
  have h:=lo h hx4
  exact flz h
 exact j.ze h
instance:Ct1 prog 70 dt dt Zj:=⟨λ h=>J4 h⟩
def Xt:Option Disk:=
some (⟨wz,0,[]⟩:Disk)
theorem zdK{r:Disk}(h:Xt=some r):Fn prog 73 [] (dt r):=by
 refine fq1 1 func73 λ M _ _ j=>?_
 refine Ka ?_
 refine j.alA 0 xv [] [] (λ b2 _ _ _ j=>Kb (Ka ?_))
 refine j.zh 1 [(0,0)] (λ _ _ j=>?_) (hs:=sc Z (zT (parts:=[]) (ns:=[1,1,1]) (zs:=qy) Z Z (λ w a hl=>by simp) (λ w a hl=>Disk.parts (x:=(⟨wz,0,[]⟩:Disk)) (xh _ _) ⟨Z,trivial⟩ yj))<|.nil)
 refine j.stA 0 0 FldS.id (tp Z) [] [] (λ _ _ j=>Kb ?_)
 exact j.yB h
instance:Ct0 prog 73  dt Xt:=⟨λ h=>zdK h⟩
def je(x0:File):Option File:=
(appO 56 [] x0.body).bind λ v7=>
some ({ x0 with body:=v7 })
theorem Ww{x0:File}{r:File}(h:je x0=some r):Fn prog 154 [dt x0] (dt r):=by
 refine fq1 3 func154 λ M _ _ j=>?_
 refine Ka ?_
 refine j.boxD 1 Z Z (tp Z) [] Z [] Z Z λ b1 _ _ _ j=>?_
 refine j.alA 2 JD [] [1] (λ b3 _ _ _ j=>Kb (Ka ?_))
 refine j.zh 3 [(1,1),(2,2),(3,0)] (λ _ _ j=>?_) (hs:=sc Z (xn (α:=Stmt) (e:=177) Z)<|segZ)
 have⟨v7,p7,h⟩:=bs h
 refine j.apA 0 yV p7 [] [1,2] λ g6 _ _ _ j=>?_
 refine j.zh 1 [(1,1),(2,2),(6,0),(7,1)] λ _ _ j=>?_
 have j:=j.frz 0 (s:=6) Z Z [] Z [1,2,7] Z
 refine j.stA 1 1 File.set5 (tp Z) [] [2] (λ _ _ j=>Kb (Ka ?_))
 refine j.zh 1 [(2,2)] λ _ _ j=>?_
 refine j.stA 2 2 FldS.id (tp Z) [] [] (λ _ _ j=>Kb ?_)
 exact j.yB h
instance:Ct1 prog 154 dt dt je:=⟨λ h=>Ww h⟩
def j5(x0:List Dir)(x1:Int)(x2:Str)(s4:Int):Option (Int⊕(Unit⊕Int)):=
if(cmpI .lss s4 (x0.length:Int))=true then((atI x0 s4).bind λ v9=>
(gO (cmpI .eql v9.root x1 == true) (atI x0 s4)).bind λ v10=>
if(cmpI .eql v9.root x1&&decide (v10.pkg=x2))=true then(some (.inr (.inr s4)))
else((i64 (s4+(1:Int))).bind λ v19=>
some (.inl v19)))
else(some (.inr (.inl ())))
def Yu(x0:List Dir)(x1:Int)(x2:Str):Option Int:=
Option.bind (α:=Unit⊕Int) (zE (λ s4=>j5 x0 x1 x2 s4) (0:Int)) (Sum.elim (λ _b2=>
some (-1:Int)) some)
theorem Qr{x0:List Dir}{x2:Str}{r:Int}(h:Yu x0 x1 x2=some r):Fn prog 230 [dt x0,dt x1,dt x2] (dt r):=by
 refine fq1 0 func230 λ M w0 _ j=>?_
 refine j.z1 (λ _ _ j=>za ?_)
 refine j.jb [] (λ _=>[]) h (λ o2 p2 k2=>?_) λ b2 _ _ j h=>?_
 ·refine j.z1 λ _ _ j=>?_
  refine wql p2 (λ s4 a w=>Sx (Frm.of w0) 31 M M [] [(0,dt x0),(1,dt x1),(2,dt x2),(7,dt s4)] [] a w) (j.sel0 [0,1,2,7]) ?_
  rintro s4 z4 _ _ j hs4 hx4
  have h:j5 x0 x1 x2 s4=some z4:=hs4
  unfold j5 at h
  refine j.zc h (λ _ _ j h=>?_) λ _ _ j h=>?_
  ·have⟨v9,p9,h⟩:=bs h
   have⟨v10,p10,h⟩:=bs h
   refine j.zc h (λ _ _ j h=>?_) λ _ _ j h=>?_
   ·exact j.ze (jo (lo h hx4) k2)
   have⟨v19,p19,h⟩:=bs h
   exact j.zn [] h
  have h:=lo h hx4
  exact flz h
 exact j.ze h
instance:Ct3 prog 230 dt dt dt dt Yu:=⟨λ h=>Qr h⟩
def wt(x0:List Dir)(s4:Int):Option (Int⊕(Unit⊕Bool)):=
if(cmpI .lss s4 (x0.length:Int))=true then((atI x0 s4).bind λ v9=>
(z7 v9.root (0:Int) (2:Int)).bind λ v10=>
(gO ((!v10) == false) (atI x0 s4)).bind λ v11=>
(gO ((!v10) == false) (yJ v11.pkg)).bind λ v12=>
(gO (((!v10)||(!v12)) == false) (atI x0 s4)).bind λ v13=>
(gO (((!v10)||(!v12)) == false) (z7 v13.stamp (0:Int) (200:Int))).bind λ v14=>
(gO ((((!v10)||(!v12))||(!v14)) == false) (atI x0 s4)).bind λ v15=>
(gO ((((!v10)||(!v12))||(!v14)) == false) (atI x0 s4)).bind λ v16=>
(gO ((((!v10)||(!v12))||(!v14)) == false) (Yu x0 v15.root v16.pkg)).bind λ v17=>
(gO (((((!v10)||(!v12))||(!v14))||cmpI .lss v17 s4) == false) (atI x0 s4)).bind λ v18=>
if(((((!v10)||(!v12))||(!v14))||cmpI .lss v17 s4)||cmpI .gtr (v18.names.length:Int) 12)=true then(some (.inr (.inr false)))
else((i64 (s4+(1:Int))).bind λ v35=>
some (.inl v35)))
else(some (.inr (.inl ())))
def Zk(x0:List Dir):Option Bool:=
Option.bind (α:=Unit⊕Bool) (zE (λ s4=>wt x0 s4) (0:Int)) (Sum.elim (λ _b2=>
some (cmpI .leq (x0.length:Int) 20)) some)
theorem J5{x0:List Dir}{r:Bool}(h:Zk x0=some r):Fn prog 211 [dt x0] (dt r):=by
 refine fq1 0 func211 λ M w0 _ j=>?_
 refine j.z1 (λ _ _ j=>za ?_)
 refine j.jb [0] (λ _=>[]) h (λ o2 p2 k2=>?_) λ b2 _ _ j h=>?_
 ·refine j.z1 λ _ _ j=>?_
  refine wql p2 (λ s4 a w=>Sx (Frm.of w0) 63 M M [] [(0,dt x0),(3,dt s4)] [] a w) (j.sel0 [0,3]) ?_
  rintro s4 z4 _ _ j hs4 hx4
  have h:wt x0 s4=some z4:=hs4
  unfold wt at h
  refine j.zc h (λ _ _ j h=>?_) λ _ _ j h=>?_
  ·have⟨v9,p9,h⟩:=bs h
   have⟨v10,p10,v11,p11,h⟩:=Kg h
   have⟨v12,p12,v13,p13,h⟩:=Kg h
   have⟨v14,p14,v15,p15,h⟩:=Kg h
   have⟨v16,p16,v17,p17,h⟩:=Kg h
   have⟨v18,p18,h⟩:=bs h
   refine j.zw (λ _ _ j=>?_) (hs:=sV 5 (r:=by exact sw Z (zF (l:=[.tmp 14,.const (.int .i64 0),.const (.int .i64 2)]) Z (.cons (tp Z) (.cons cI (.cons cI .nil))) (ym p10))<|sV 4 (r:=by exact swg Z Z (λ hg=>xIdx Z (zk hg Z) (zk hg Z) (gh hg p11))<|sV 2 (r:=by exact swg Z Z (λ hg=>zF (l:=[.tmp 22]) Z (.cons (zk hg Z) .nil) (qP (gh hg p12)))<|sV 1 (r:=by exact sw Z (jX Z (tp Z) (zb Z))<|sV 3 (r:=by exact swg Z Z (λ hg=>xIdx Z (zk hg Z) (zk hg Z) (gh hg p13))<|sV 2 (r:=by exact swg Z Z (λ hg=>zF (l:=[.tmp 31,.const (.int .i64 0),.const (.int .i64 200)]) Z (.cons (zk hg Z) (.cons cI (.cons cI .nil))) (ym (gh hg p14)))<|sV 1 (r:=by exact sw Z (jX Z (tp Z) (zb Z))<|sV 4 (r:=by exact swg Z Z (λ hg=>xIdx Z (zk hg Z) (zk hg Z) (gh hg p15))<|sV 4 (r:=by exact swg Z Z (λ hg=>xIdx Z (zk hg Z) (zk hg Z) (gh hg p16))<|sV 2 (r:=by exact swg Z Z (λ hg=>zF (l:=[.tmp 36,.tmp 41,.tmp 46]) Z (.cons (zk hg Z) (.cons (zk hg Z) (.cons (zk hg Z) .nil))) (Qr (gh hg p17)))<|sV 1 (r:=by exact swg Z Z (λ hg=>oCI Z (zk hg Z) (zk hg Z))<|sw Z (jX Z (tp Z) (zb Z))<|sV 3 (r:=by exact swg Z Z (λ hg=>xIdx Z (zk hg Z) (zk hg Z) (gh hg p18))<|sV 3 (r:=by exact swg Z Z (λ hg=>oCI Z (zk hg Z) cI)<|sw Z (jX Z (tp Z) (zb Z))<|.nil))))))))))))))
   refine j.cq h (λ h=>?_) λ h=>?_
   ·exact j.ze (jo (lo h hx4) k2)
   have⟨v35,p35,h⟩:=bs h
   exact j.zn [] h
  have h:=lo h hx4
  exact flz h
 exact j.ze h
instance:Ct1 prog 211 dt dt Zk:=⟨λ h=>J5 h⟩
def wu(x0:Disk)(s4:Int):Option (Int⊕(Unit⊕Bool)):=
if(cmpI .lss s4 (x0.dirs.length:Int))=true then((atI x0.dirs s4).bind λ v9=>
(gO (cmpI .gtr v9.stamp x0.clock == false) (atI x0.dirs s4)).bind λ v10=>
if(cmpI .gtr v9.stamp x0.clock||cmpI .gtr (v10.names.length:Int) 0)=true then(some (.inr (.inr false)))
else((i64 (s4+(1:Int))).bind λ v19=>
some (.inl v19)))
else(some (.inr (.inl ())))
def wN(x0:Disk):Option Bool:=
Option.bind (α:=Unit⊕Bool) (zE (λ s4=>wu x0 s4) (0:Int)) (Sum.elim (λ _b2=>
(zX x0.tree).bind λ v24=>
(gO (v24 == true) (z7 x0.clock (0:Int) (200:Int))).bind λ v25=>
(gO ((v24&&v25) == true) (Zk x0.dirs)).bind λ v26=>
some ((v24&&v25)&&v26)) some)
theorem Yv{r:Bool}(h:wN x0=some r):Fn prog 187 [dt x0] (dt r):=by
 refine fq1 0 func187 λ M w0 _ j=>?_
 refine j.z1 (λ _ _ j=>za ?_)
 refine j.jb [1] (λ _=>[]) h (λ o2 p2 k2=>?_) λ b2 _ _ j h=>?_
 ·refine j.z1 λ _ _ j=>?_
  refine wql p2 (λ s4 a w=>Sx (Frm.of w0) 43 M M [] [(1,dptr x0),(3,dt s4)] [] a w) (j.sel0 [1,3]) ?_
  rintro s4 z4 _ _ j hs4 hx4
  have h:wu x0 s4=some z4:=hs4
  unfold wu at h
  refine j.zc h (λ _ _ j h=>?_) λ _ _ j h=>?_
  ·have⟨v9,p9,h⟩:=bs h
   have⟨v10,p10,h⟩:=bs h
   refine j.zw λ _ _ j=>?_
   refine j.cq h (λ h=>?_) λ h=>?_
   ·exact j.ze (jo (lo h hx4) k2)
   have⟨v19,p19,h⟩:=bs h
   exact j.zn [] h
  have h:=lo h hx4
  exact flz h
 have⟨v24,p24,v25,p25,h⟩:=Kg h
 have⟨v26,p26,h⟩:=bs h
 exact j.ze h (hs:=sZ 2 (r:=by exact sc Z (oK (wL p24))<|sZ 3 (r:=by exact sg Z Z (λ hg=>oK (ym (gh hg p25)))<|sZ 4 (r:=by exact sg Z Z (λ hg=>oK (J5 (gh hg p26)))<|segZ))))
instance:Ct1 prog 187 dt dt wN:=⟨λ h=>Yv h⟩
def wO(x0:Tree)(s15:Tree×Int):Option ((Tree×Int)⊕Tree):=
if(cmpI .lss s15.2 (x0.files.length:Int))=true then((atI x0.files s15.2).bind λ v22=>
(je v22).bind λ v23=>
(appO 80 s15.1.files ([v23]:List File)).bind λ v33=>
(i64 (s15.2+(1:Int))).bind λ v41=>
some (.inl ((⟨v33⟩:Tree),v41)))
else(some (.inr s15.1))
def j6(x0:Tree):Option Tree:=
Option.bind (α:=Tree) (zE (λ s15=>wO x0 s15) ((⟨[]⟩:Tree),(0:Int))) λ o11=>
some o11
theorem Wx{x0:Tree}{r:Tree}(h:j6 x0=some r):FnN prog 191 [dt x0] (.ow (owTree (Ow.row 59 (Ow.frz (α:=File)))) r):=by
 refine fnN (fn:=f191) 4 func191 Z Z (λ M w0 _ j=>wqw (Ka ?_))
 refine j.zg 1 λ _ _ j=>?_
 refine j.alcW (ow:=(owTree (Ow.row 59 (Ow.frz (α:=File))))) 2 (owTree.z Ow.row_z) [1] [] λ b2 _ _ _ j=>?_
 have j:=j.gn
 refine Kb (Ka ?_)
 refine j.bldW (ow:=(owTree (Ow.row 59 (Ow.frz (α:=File))))) (parts:=[]) (ns:=[1]) (zs:=W3) (x:=(⟨[]⟩:Tree)) 0 [] (by simp) (((owTree (Ow.row 59 (Ow.frz (α:=File))))).more (owTree.mk (x:=(⟨[]⟩:Tree)) (Ow.row_z _ _)) (λ b=>(λ hb=>hb.elim))) [1] [2] λ G4 _ _ j=>?_
 have j:=j.gs (Gs':=[G4,oneB none,(oneB (some b2)),oneB none])
 have j:=j.gs (Gs':=[G4,oneB none,(oneB (some b2)),oneB none])
 refine j.alcW (ow:=(owTree (Ow.row 59 (Ow.frz (α:=File))))) 3 (owTree.z Ow.row_z) [1] [2,5] λ b7 _ _ _ j=>?_
 have j:=j.gn
 refine j.stO (sb:=3) (tv:=5) 3 0 (PV.root.box Z) (zD Z) [1] [2] λ _ _ j=>?_
 have j:=j.gn
 refine Kb (za ?_)
 have⟨o11,p11,k11⟩:=bs h
 refine wqj (λ a w=>∃ M1 Q R T U,Sx (Frm.of w0) 25 M M1 [Q,R,T,U] [] [(2,2,dow (Ow.box (owTree (Ow.row 59 (Ow.frz (α:=File))))) T ⟨wz⟩),(3,3,dow (Ow.box (owTree (Ow.row 59 (Ow.frz (α:=File))))) U ⟨o11⟩)] a w) ?_ ?_
 ·refine j.zo [(2,2),(3,3)] λ _ _ j=>?_
  have j:=j.unm (s:=2) 2 [3]
  have j:=j.unm (s:=3) 3 [2]
  refine wql p11 (λ s15 a w=>∃ M1 Q R T U,Sx (Frm.of w0) 25 M M1 [Q,R,T,U] [(1,dptr x0),(4,dt s15.2)] [(2,2,dow (Ow.box (owTree (Ow.row 59 (Ow.frz (α:=File))))) T ⟨wz⟩),(3,3,dow (Ow.box (owTree (Ow.row 59 (Ow.frz (α:=File))))) U ⟨s15.1⟩)] a w) fx ?_
  rintro s15 z15 _ _ ⟨_,Q,R,T,U,j⟩ hs15 hx15
  have h:wO x0 s15=some z15:=hs15
  unfold wO at h
  refine j.zd [(2,2),(3,3)] h (λ _ _ j h=>?_) λ _ _ j h=>?_
  ·have⟨v22,p22,h⟩:=bs h
   have⟨v23,p23,h⟩:=bs h
   refine j.nmB (s:=3) 3 [2] λ b20 j=>?_
   refine j.hdA 3 3 ((PV.root.box Z).fld owTree.f0) [2] λ g21 A21 _ hA21 j=>?_
   refine j.drnA (D:=[_,_,_,_,_,_,_,_,_]) zL 9 [[(3,nS)],[(13,0),(3,nS)],[(1,nS)],[(15,2)],[(4,nS)],[(16,3),(17,4)],[(18,5)],[(19,6)],[(20,7)],[(14,1),(21,8)],[(3,nS)],[(23,10),(22,9)]] [1,4,14,21] [(2,2),(3,3)] (λ _ _ j=>?_) (hs:=rc Z Z (xFa Z jq (zD Z))<|rc Z Z (xLc (sb:=3) (.head _) Z Z Z (tp Z) Z)<|rc Z Z (zA Tree.fld0 Z (ht:=jq) (tp Z))<|rc Z Z (zr Z (tp Z))<|rc Z Z (oM Z (tp Z))<|rc Z Z (xIdx Z (tp Z) (tp Z) p22)<|rc Z Z (zr Z (tp Z))<|rc Z Z (zF (l:=[.tmp 19]) Z (.cons (tp Z) .nil) (Ww p23))<|rc Z Z (xt (opds:=[.tmp 20]) Z Z Z (.cons (tp Z) .nil))<|.nil)
   refine j.mvG (s:=14) (sb:=3) 3 1 ((PV.root.box Z).fld owTree.f0) (.head _) (yh Z Z) [1,4,21] [2] λ _ H28 j=>?_
   have j:=j.gn
   refine j.tipR (s:=14) 1 (by first | (simp;done) | exact oD rfl) [2,3] λ g30 j=>?_
   have⟨v33,p33,h⟩:=bs h
   refine j.apA 1 yV p33 [1,4] [2,3] λ g32 _ _ _ j=>?_
   have j:=j.gn
   refine j.zh 1 [(2,2),(3,3),(22,1)] (λ _ _ j=>?_) (hs:=sc Z (xFa Z jq (zae Z))<|.nil)
   have j:=j.tipW (s:=22) 1 [2,3]
   refine j.shA 3 22 3 1 (tp Z) [1,4] [2] λ _ _ j=>?_
   have j:=j.gn
   refine Kb ?_
   have⟨v41,p41,h⟩:=bs h
   refine j.zo [(2,2),(3,3)] λ _ _ j=>?_
   have j:=j.unm (s:=3) 3 [2]
   exact flz h
  have h:=lo h hx15
  cases h
  exact fz
 rintro _ _ ⟨_,Q,R,T,U,j⟩
 have h:=k11
 refine Ka ?_
 refine j.nmB (s:=3) 3 [2] λ b48 j=>?_
 refine j.ldW (sb:=3) 3 [] [2] λ _ _ j=>?_
 refine j.nmB (s:=2) 2 [24] λ b50 j=>?_
 refine j.stO (sb:=2) (tv:=24) 2 3 (PV.root.box Z) (zD Z) [] [] λ _ _ j=>?_
 have j:=j.gn
 refine Kb ?_
 exact j.rnC 2 iI h
def jR(x0:Tree)(x1:File):Option (Tree×Bool):=
(j6 x0).bind λ v8=>
(je x1).bind λ v16=>
(appO 80 v8.files ([v16]:List File)).bind λ v25=>
(zX x0).bind λ v35=>
(gO ((!v35) == false) (zX (⟨v25⟩:Tree))).bind λ v36=>
if((!v35)||(!v36))=true then(some ((⟨[]⟩:Tree),false))
else(some ((⟨v25⟩:Tree),true))
theorem zao{x0:Tree}{x1:File}{r:Tree×Bool}(h:jR x0 x1=some r):Fn prog 188 [dt x0,dt x1] (dtup [dt r.1,dt r.2]):=by
 refine fq1 4 func188 λ M _ _ j=>?_
 refine Ka ?_
 refine j.zg 2 λ _ _ j=>?_
 refine j.alA 2 xh [2,3] [] λ b3 _ _ _ j=>?_
 have j:=j.gn
 refine j.zh 1 [(4,2)] (λ _ _ j=>Kb (Ka ?_))
 refine j.zh 1 [(4,2)] λ _ _ j=>?_
 have⟨v8,p8,h⟩:=bs h
 refine j.cN (l:=[.tmp 7]) 0 (.cons (tp Z) .nil) (Wx p8) [2,3] [4] λ _ _ _ _ j=>?_
 have j:=j.gn
 refine j.alcW (ow:=(owTree (Ow.row 59 (Ow.frz (α:=File))))) 3 (owTree.z Ow.row_z) [2,3] [4,8] λ b11 _ _ _ j=>?_
 have j:=j.gn
 refine j.stO (sb:=6) (tv:=8) 3 0 (PV.root.box Z) (zD Z) [2,3] [4] λ _ _ j=>?_
 have j:=j.gn
 refine Kb ?_
 have⟨v16,p16,h⟩:=bs h
 refine j.hdA 6 3 ((PV.root.box Z).fld owTree.f0) [4] λ g15 A15 _ hA15 j=>?_
 refine j.drnA (D:=[_,_,_,_,_]) zL 5 [[(6,nS)],[(9,0),(6,nS)],[(3,nS)],[(11,2)],[(12,3)],[(10,1),(13,4)],[(6,nS)],[(15,6),(14,5)]] [2,10,13] [(4,2),(6,3)] (λ _ _ j=>?_) (hs:=rc Z Z (xFa Z jq (zD Z))<|rc Z Z (xLc (sb:=6) (.head _) Z Z Z (tp Z) Z)<|rc Z Z (zr Z (tp Z))<|rc Z Z (zF (l:=[.tmp 11]) Z (.cons (tp Z) .nil) (Ww p16))<|rc Z Z (xt (opds:=[.tmp 12]) Z Z Z (.cons (tp Z) .nil))<|.nil)
 refine j.mvG (s:=10) (sb:=6) 3 1 ((PV.root.box Z).fld owTree.f0) (.head _) (yh Z Z) [2,13] [4] λ _ H20 j=>?_
 have j:=j.gn
 refine j.tipR (s:=10) 1 (by first | (simp;done) | exact oD rfl) [4,6] λ g22 j=>?_
 have⟨v25,p25,h⟩:=bs h
 refine j.apA 1 yV p25 [2] [4,6] λ g24 _ _ _ j=>?_
 have j:=j.gn
 refine j.zh 1 [(4,2),(6,3),(14,1)] (λ _ _ j=>?_) (hs:=sc Z (xFa Z jq (zae Z))<|.nil)
 have j:=j.tipW (s:=14) 1 [4,6]
 refine j.shA 6 14 3 1 (tp Z) [2] [4] λ _ _ j=>?_
 have j:=j.gn
 refine Kb ?_
 have j:=j.unm (s:=6) 3 [4]
 have j:=j.frzB (s:=6) 3 [2] [4]
 have⟨v35,p35,v36,p36,h⟩:=Kg h
 refine j.zd [(4,2)] h (λ _ _ j h=>?_) (λ _ _ j h=>?_) (hs:=sZ 1 (r:=by exact sc Z (oK (wL p35))<|sZ 3 (r:=by exact sg Z Z (λ hg=>oK (wL (gh hg p36)))<|segZ)))
 ·refine Ka ?_
  refine j.zh 1 [(4,2)] (λ _ _ j=>?_) (hs:=sc Z (zT (parts:=[]) (ns:=[1]) (zs:=W3) Z Z (λ w a hl=>by simp) (λ w a hl=>Tree.parts (x:=(⟨[]⟩:Tree)) yj))<|.nil)
  refine j.stA 4 2 FldS.id (tp Z) [] [] λ _ _ j=>?_
  refine j.zh 1 [(4,2)] (λ _ _ j=>Kb ?_)
  obtain rfl:=Option.some.inj h
  exact j.y2
 refine Ka ?_
 refine j.zh 1 [(4,2)] λ _ _ j=>?_
 refine j.stA 4 2 FldS.id (tp Z) [] [] λ _ _ j=>?_
 refine j.zh 1 [(4,2)] (λ _ _ j=>Kb ?_)
 obtain rfl:=Option.some.inj h
 exact j.y2
instance:Ct2 prog 188 dt dt (λ r=>dtup [dt r.1,dt r.2]) jR:=⟨λ h=>zao h⟩
def wP(x0:List Dir)(s5:(List Dir)×Int):Option (((List Dir)×Int)⊕(List Dir)):=
if(cmpI .lss s5.2 (x0.length:Int))=true then((atI x0 s5.2).bind λ v10=>
(appO 16 [] v10.names).bind λ v21=>
(appO 56 s5.1 ([{ v10 with names:=v21 }]:List Dir)).bind λ v30=>
(i64 (s5.2+(1:Int))).bind λ v33=>
some (.inl (v30,v33)))
else(some (.inr s5.1))
def ZG(x0:List Dir):Option (List Dir):=
Option.bind (α:=(List Dir)) (zE (λ s5=>wP x0 s5) ([],(0:Int))) λ o3=>
some o3
theorem Wy{x0:List Dir}{r:List Dir}(h:ZG x0=some r):FnOwn prog 158 [dt x0] 235 r:=by
 refine fqO 3 func158 λ M w0 _ j=>?_
 refine j.z1 (λ _ _ j=>?_) (hs:=sc Z (oA Z (Z1 (α:=Dir) (e:=235)))<|.nil)
 refine j.zo [(3,0)] (λ _ _ j=>?_) (hs:=sc Z (xn (α:=Dir) (e:=235) Z)<|segZ)
 refine za ?_
 refine j.jmq 3 [] (λ _=>[]) (λ o3 q=>[(3,0,dtip (q 0) 235 o3)]) h (λ o3 p3=>?_) λ o3 q3 _ _ _ j h=>?_
 ·refine j.zo [(3,0)] λ _ _ j=>?_
  refine wql p3 (λ s5 a w=>∃ M1 Q R T,Sx (Frm.of w0) 27 M M1 [oneB Q,oneB R,oneB T] [(0,dt x0),(4,dt s5.2)] [(3,0,dtip Q 235 s5.1)] a w) fx ?_
  rintro s5 z5 _ _ ⟨_,Q,R,T,j⟩ hs5 hx5
  have h:wP x0 s5=some z5:=hs5
  unfold wP at h
  refine j.zd [(3,0)] h (λ _ _ j h=>?_) λ _ _ j h=>?_
  ·refine Ka ?_
   have⟨v10,p10,h⟩:=bs h
   refine j.zh 4 [(3,0)] λ _ _ j=>?_
   refine j.alA 2 zrDir [0,4,16] [3] λ b14 _ _ _ j=>?_
   refine j.stA 5 2 FldS.id (tp Z) [0,4] [3] (λ _ _ j=>Kb ?_)
   have j:=j.rst 1 [0,4] [3,5]
   refine Ka ?_
   refine j.zh 3 [(3,0),(5,2),(17,1)] (λ _ _ j=>?_) (hs:=sc Z (xn (α:=Str) (e:=9) Z (ht':=Jr))<|segZ)
   have⟨v21,p21,h⟩:=bs h
   refine j.apA 1 yV p21 [0,4] [3,5] λ g20 _ _ _ j=>?_
   refine j.zh 1 [(3,0),(5,2),(20,1),(21,2)] λ _ _ j=>?_
   have j:=j.frz 1 (s:=20) Z Z [0,4] Z [3,5,21] Z
   refine j.stA 5 2 Dir.set3 (tp Z) [0,4] [3] (λ _ _ j=>Kb (Ka ?_))
   refine j.zh 3 [(3,0),(22,0)] λ _ _ j=>?_
   have⟨v30,p30,h⟩:=bs h
   refine j.apA 0 yV p30 [0,4] [] λ g29 _ _ _ j=>?_
   refine j.zh 1 [(3,0)] (λ _ _ j=>Kb ?_)
   have⟨v33,p33,h⟩:=bs h
   exact j.zn [(3,0)] h
  have h:=lo h hx5
  cases h
  exact fz
 exact j.zl 0 h
def yk(x1:Int)(o9:(List Str))(s35:Disk×Int):Option ((Disk×Int)⊕Disk):=
if(cmpI .lss s35.2 (o9.length:Int))=true then(Option.bind (α:=Disk) ((atI o9 s35.2).bind λ v44=>
(Yu s35.1.dirs x1 v44).bind λ v45=>
if cmpI .lss v45 0 then((atI o9 s35.2).bind λ v54=>
(appO 56 s35.1.dirs ([(⟨x1,v54,s35.1.clock,[]⟩:Dir)]:List Dir)).bind λ v63=>
some ({ s35.1 with dirs:=v63 }))
else((atI s35.1.dirs v45).bind λ v74=>
some ({ s35.1 with dirs:=(s35.1.dirs.set v45.toNat ({ v74 with stamp:=s35.1.clock })) }))) λ o41=>
(i64 (s35.2+(1:Int))).bind λ v81=>
some (.inl (o41,v81)))
else(some (.inr s35.1))
def Zl(x0:Disk)(x1:Int)(x2:Str):Option Disk:=
Option.bind (α:=(List Str)) (if(decide (x2≠(⟨[]⟩:Str)))=true then((qg x2).bind λ v13=>
(appO 16 [(⟨[]⟩:Str)] v13).bind λ v21=>
some v21)
else(some [(⟨[]⟩:Str)])) λ o9=>
Option.bind (α:=Disk) (zE (λ s35=>yk x1 o9 s35) (x0,(0:Int))) λ o33=>
some o33
theorem zdL{x2:Str}{r:Disk}(h:Zl x0 x1 x2=some r):FnT prog 212 (owDisk (Ow.frz (α:=Tree)) (Ow.row 235 (Ow.frz (α:=Dir)))) x0 [dt x1,dt x2] (.ow (owDisk (Ow.frz (α:=Tree)) (Ow.row 235 (Ow.frz (α:=Dir)))) r):=by
 unfold Zl at h
 refine fnT (fn:=f212) 0 6 func212 Z Z (λ M G w0 _ j=>Kc (Ka ?_))
 refine j.boxW 1 0 iI [1,2] [] λ b1 G1 M1 _ _ j=>?_
 have j:=j.gn
 refine j.alcW (ow:=(owDisk (Ow.frz (α:=Tree)) (Ow.row 235 (Ow.frz (α:=Dir))))) 5 (owDisk.z xh Ow.row_z) [1,2] [3] λ b3 _ _ _ j=>?_
 have j:=j.gn
 refine Kb (za (Kc (Ka ?_)))
 refine j.litW (oe:=(Ow.frz (α:=Str))) (opds:=[_]) (xs:=[(⟨[]⟩:Str)]) 2 [] kI120 kY120 (qf (oe:=(Ow.frz (α:=Str))) (G1:=noB) (OpdR.cells (yz) (λ s y hs=>j.st.has s y hs)) (λ _ h=>h.elim)) (λ q hq=>by
 simp only[List.mem_cons,List.not_mem_nil,or_false] at hq
 subst hq
 exact Rep.len (OpdR.cells (yz) (λ s y hs=>j.st.has s y hs))) [1,2] [3,6] (λ G5 _ _ _ j=>?_)
 have j:=j.gs (Gs':=[oneB none,G1,G5,oneB none,oneB none,(oneB (some b3))])
 refine j.nmR (s:=10) 2 [3,6] λ g7 A7 _ hA7 j=>?_
 refine j.segA 1 [1,2] [(3,1),(6,5),(7,2)] (λ _ _ j=>Kb (za ?_))
 have⟨o9,p9,k9⟩:=bs h
 refine qa (λ a w=>∃ M1 Q R T U V W,Sx (Frm.chg w0 G) 54 M M1 [Q,R,T,U,V,W] [(1,dt x1)] [(3,1,dow (Ow.box (owDisk (Ow.frz (α:=Tree)) (Ow.row 235 (Ow.frz (α:=Dir))))) R ⟨x0⟩),(6,5,dow (Ow.box (owDisk (Ow.frz (α:=Tree)) (Ow.row 235 (Ow.frz (α:=Dir))))) W ⟨yC⟩),(7,2,dow (Ow.row 9 (Ow.frz (α:=Str))) T o9)] a w) ?_ ?_
 ·refine j.sqA [1,2,12] [(3,1),(6,5),(7,2)] λ _ _ j=>?_
  refine j.cs p9 (λ _ h=>?_) λ _ h=>?_
  ·refine Ka ?_
   obtain⟨v13,p13,h⟩:=bsW h zb1
   refine j.segA 3 [1,15] [(3,1),(6,5),(7,2),(13,2)] λ _ _ j=>?_
   have j:=j.unm (s:=13) 2 [3,6]
   refine j.tipR (s:=13) 2 (by first | (simp;done) | exact oD rfl) [3,6] λ g18 j=>?_
   have⟨v21,p21,h⟩:=bs h
   refine j.apA 2 yV p21 [1] [3,6] λ g20 _ _ _ j=>?_
   have j:=j.gn
   refine j.segA 1 [1] [(3,1),(6,5),(7,2)] (λ _ _ j=>Kb ?_)
   have j:=j.unm (s:=3) 1 [6,7]
   have j:=j.unm (s:=6) 5 [3,7]
   have j:=j.tipW (s:=7) 2 [3,6]
   refine za ?_
   cases h
   exact fx
  refine wp_skip ?_
  have j:=j.unm (s:=3) 1 [6,7]
  have j:=j.unm (s:=6) 5 [3,7]
  have j:=j.unm (s:=7) 2 [3,6]
  refine za ?_
  cases h
  exact fx
 rintro _ _ ⟨_,Q,R,T,U,V,W,j⟩
 have h:=k9
 have⟨o33,p33,k33⟩:=bs h
 refine qa (λ a w=>∃ M1 Q R T U V W,Sx (Frm.chg w0 G) 54 M M1 [Q,R,T,U,V,W] [] [(3,1,dow (Ow.box (owDisk (Ow.frz (α:=Tree)) (Ow.row 235 (Ow.frz (α:=Dir))))) R ⟨o33⟩),(6,5,dow (Ow.box (owDisk (Ow.frz (α:=Tree)) (Ow.row 235 (Ow.frz (α:=Dir))))) W ⟨yC⟩)] a w) ?_ ?_
 ·refine j.sqA [1,8] [(3,1),(6,5),(7,2)] (λ _ _ j=>wp_block ?_)
  refine WY p33 (λ s35 a w=>∃ M1 Q R T U V W,Sx (Frm.chg w0 G) 54 M M1 [Q,R,T,U,V,W] [(1,dt x1),(8,dt s35.2)] [(3,1,dow (Ow.box (owDisk (Ow.frz (α:=Tree)) (Ow.row 235 (Ow.frz (α:=Dir))))) R ⟨s35.1⟩),(6,5,dow (Ow.box (owDisk (Ow.frz (α:=Tree)) (Ow.row 235 (Ow.frz (α:=Dir))))) W ⟨yC⟩),(7,2,dow (Ow.row 9 (Ow.frz (α:=Str))) T o9)] a w) fx ?_
  rintro s35 z35 _ _ ⟨_,Q,R,T,U,V,W,j⟩ hs35 hx35
  have h:yk x1 o9 s35=some z35:=hs35
  unfold yk at h
  refine Kc ?_
  refine j.nmR (s:=7) 2 [3,6] λ g37 A37 _ hA37 j=>?_
  refine j.sqB (sc Z (oM Z (tp Z))<|sc Z (oM Z (tp Z))<|sc Z (xLeN Z kL120 Z)<|sc Z (oCI Z (tp Z) (tp Z))<|.nil) [1,8,20] [(3,1),(6,5),(7,2)] λ _ _ j=>?_
  refine j.cs h (λ _ h=>?_) λ _ h=>?_
  ·refine wp_skip (za ?_)
   have⟨o41,p41,k41⟩:=bs h
   refine qa (λ a w=>∃ M1 Q R T U V W,Sx (Frm.chg w0 G) 54 M M1 [Q,R,T,U,V,W] [(1,dt x1),(8,dt s35.2)] [(3,1,dow (Ow.box (owDisk (Ow.frz (α:=Tree)) (Ow.row 235 (Ow.frz (α:=Dir))))) R ⟨o41⟩),(6,5,dow (Ow.box (owDisk (Ow.frz (α:=Tree)) (Ow.row 235 (Ow.frz (α:=Dir))))) W ⟨yC⟩),(7,2,dow (Ow.row 9 (Ow.frz (α:=Str))) T o9)] a w) ?_ ?_
   ·refine wp_block (Kc ?_)
    have⟨v44,p44,h⟩:=bs p41
    have⟨v45,p45,h⟩:=bs h
    refine j.nmB (s:=3) 1 [6,7] λ b42 j=>?_
    refine j.hdA 3 1 ((PV.root.box Z).fld owDisk.f2) [6,7] λ g43 A43 _ hA43 j=>?_
    refine j.drA (D:=[_,_,_,_,_,_,_,_,_]) zL [[(3,nS)],[(23,0),(3,nS)],[(1,nS)],[(7,nS)],[(8,nS)],[(26,3),(27,4)],[(28,5),(7,nS)],[(24,1),(25,2),(29,6),(3,nS)],[(30,7)]] [1,8,9] [(3,1),(6,5),(7,2)] (λ _ _ j=>?_) (hs:=rc Z Z (xFa Z Xs (zD Z))<|rc Z Z (xLc (sb:=3) (.head _) Z Z Z (tp Z) Z)<|rc Z Z (oM Z (tp Z))<|rc Z Z (oM Z (tp Z))<|rc Z Z (oM Z (tp Z))<|rc Z Z (xIaN Z Jr Z (tp Z) hA37 p44)<|rc Z Z (xLf (sb:=7) (PV.root.row Z hA37 p44) Z (tp Z) Z)<|rc Z Z (yH (l:=[.tmp 24,.tmp 25,.tmp 29]) j.ob.sub Z (.cons (zaT (sb:=3) j.ob 1 ((PV.root.box Z).fld owDisk.f2) (.head _) Z (yh Z Z) (tp Z) Z iI) (.cons (xA j.ob.sub (tp Z)) (.cons (xA j.ob.sub (tp Z)) .nil))) (Qr p45) wE)<|rc Z Z (oA Z (tp Z))<|.nil)
    have j:=j.ncf (s:=3) 1 [6,7]
    refine za ?_
    refine j.sqA [1,8,9,32] [(3,1),(6,5),(7,2)] λ _ _ j=>?_
    refine j.cs h (λ _ h=>?_) λ _ h=>?_
    ·have⟨v54,p54,h⟩:=bs h
     refine j.hdA 3 1 ((PV.root.box Z).fld owDisk.f2) [6,7] λ g53 A53 _ hA53 j=>?_
     refine j.drnA (D:=[_,_,_,_,_,_,_,_,_,_,_]) zL 11 [[(3,nS)],[(33,0),(3,nS)],[(1,nS)],[(7,nS)],[(8,nS)],[(36,3),(37,4)],[(38,5),(7,nS)],[(3,nS)],[(40,7),(3,nS)],[(35,2),(39,6),(41,8)],[(42,9)],[(34,1),(43,10)],[(3,nS)],[(45,12),(44,11)]] [1,8,34,43] [(3,1),(6,5),(7,2)] (λ _ _ j=>?_) (hs:=rc Z Z (xFa Z Xs (zD Z))<|rc Z Z (xLc (sb:=3) (.head _) Z Z Z (tp Z) Z)<|rc Z Z (oM Z (tp Z))<|rc Z Z (oM Z (tp Z))<|rc Z Z (oM Z (tp Z))<|rc Z Z (xIaN Z Jr Z (tp Z) hA37 p54)<|rc Z Z (xLf (sb:=7) (PV.root.row Z hA37 p54) Z (tp Z) Z)<|rc Z Z (xFa Z zam (zD Z))<|rc Z Z (xLf (sb:=3) ((PV.root.box Z).fld owDisk.f1) Z (tp Z) Z)<|rc Z Z (kD235_0_1_2 Z (tp Z) (tp Z) (tp Z))<|rc Z Z (xt (opds:=[.tmp 42]) Z Z Z (.cons (tp Z) .nil))<|.nil)
     refine j.mvG (s:=34) (sb:=3) 1 3 ((PV.root.box Z).fld owDisk.f2) (.head _) (yh Z Z) [1,8,43] [6,7] λ _ H58 j=>?_
     have j:=j.gn
     refine j.tipR (s:=34) 3 (by first | (simp;done) | exact oD rfl) [3,6,7] λ g60 j=>?_
     have⟨v63,p63,h⟩:=bs h
     refine j.apA 3 yV p63 [1,8] [3,6,7] λ g62 _ _ _ j=>?_
     have j:=j.gn
     refine j.segB 1 (sc Z (xFa Z Xs (zae Z))<|.nil) [1,8,45] [(3,1),(6,5),(7,2),(44,3)] λ _ _ j=>?_
     have j:=j.tipW (s:=44) 3 [3,6,7]
     refine j.shA 3 44 1 3 (tp Z) [1,8] [6,7] λ _ _ j=>?_
     have j:=j.gn
     refine Kb (yo ?_)
     have j:=j.unm (s:=3) 1 [6,7]
     have j:=j.unm (s:=7) 2 [3,6]
     refine za ?_
     cases h
     exact fx
    refine Ka ?_
    have⟨v74,p74,h⟩:=bs h
    refine j.hdA 3 1 ((PV.root.box Z).fld owDisk.f2) [6,7] λ g73 A73 _ hA73 j=>?_
    refine j.segB 7 (sc Z (xFa Z Xs (zD Z))<|sc Z (xLc (sb:=3) (.head _) Z Z Z (tp Z) Z)<|sP 1 (r:=by exact sc Z (xFa Z zam (zD Z))<|sc Z (xLf (sb:=3) ((PV.root.box Z).fld owDisk.f1) Z (tp Z) Z)<|sc Z (xIa (g:=g73) Z kS62 (tp Z) (tp Z) Z (λ h=>hA73 h Z) p74)<|segC)) [1,8,50,52] [(3,1),(6,5),(7,2)] λ _ _ j=>?_
    refine j.sfA 3 1 ((((PV.root.box Z).fld owDisk.f2).row (.head _) Z (λ h=>hA73 h Z) p74).fld Dir.z2) (tp Z) (tp Z) [1,8] [6,7] (λ _ j=>Kb (yo ?_))
    have j:=j.unm (s:=3) 1 [6,7]
    have j:=j.unm (s:=7) 2 [3,6]
    refine za ?_
    cases h
    exact fx
   rintro _ _ ⟨_,Q,R,T,U,V,W,j⟩
   have h:=k41
   have⟨v81,p81,h⟩:=bs h
   refine j.rgA [1,8] [(3,1),(6,5),(7,2)] (λ _ _ j=>za ?_)
   exact fl h
  refine wp_exit (yl (yl (xS ?_)))
  refine za ?_
  have h:=lo h hx35
  cases h
  exact fx
 rintro _ _ ⟨_,Q,R,T,U,V,W,j⟩
 have h:=k33
 refine Kc (Ka ?_)
 refine j.nmB (s:=3) 1 [6] λ b87 j=>?_
 refine j.ldW (sb:=3) 1 [] [6] λ _ _ j=>?_
 refine j.nmB (s:=6) 5 [53] λ b89 j=>?_
 refine j.stO (sb:=6) (tv:=53) 5 1 (PV.root.box Z) (zD Z) [] [] λ _ _ j=>?_
 have j:=j.gn
 refine Kb (za (wp_ret ?_))
 exact j.rtC 5 Z kT64 Z iI h
def jS(x0:Disk)(x1:Tree)(x2:Int)(x3:Str)(x4:Int):Option (Disk×Bool):=
(i64 (x0.clock+x4)).bind λ v11=>
(ZG x0.dirs).bind λ v17=>
(Zl (⟨x1,v11,v17⟩:Disk) x2 x3).bind λ v65=>
(wN v65).bind λ v72=>
if(!v72)=true then(some ((⟨wz,0,[]⟩:Disk),false))
else(some (v65,true))
theorem zap{x1:Tree}{x3:Str}{x4:Int}(h:jS x0 x1 x2 x3 x4=some r):Fn prog 189 [dt x0,dt x1,dt x2,dt x3,dt x4] (dtup [dt r.1,dt r.2]):=by
 refine fq1 5 func189 λ M w0 _ j=>?_
 refine Ka ?_
 refine j.zg 2 λ _ _ j=>?_
 refine j.alA 3 xv [2,3,4,5,6] [] λ b3 _ _ _ j=>?_
 have j:=j.gn
 refine j.zh 1 [(10,3)] (λ _ _ j=>Kb ?_)
 refine j.heldF zL λ c6 _ hz6 j=>?_
 refine j.tkLp (i:=0) (j.fzS (g:=31)) hz6 (tp Z) λ _ j=>?_
 refine j.tkFp (i:=1) (j.fzS (g:=31)) Disk.fld1 zam (tp Z) (next:=λ a8 j=>?_)
 refine j.tkLp (i:=2) (j.fzS (g:=31)) hz6 (tp Z) λ _ j=>?_
 refine j.tM 3 4 (j.fzS (g:=31)) λ _ j=>?_
 have⟨v11,p11,h⟩:=bs h
 refine j.tkAr (i:=4) Z Z (j.fzS (g:=31)) Z (tp Z) (tp Z) p11 (next:=λ a12 j=>?_)
 refine j.tkFp (i:=5) (j.fzS (g:=31)) Disk.fld2 Xs (tp Z) (next:=λ a14 j=>?_)
 refine j.tkLp (i:=6) (j.fzS (g:=31)) hz6 (tp Z) λ _ j=>?_
 have⟨v17,p17,h⟩:=bs h
 refine wd 1 1023 (λ a w=>∃ M1 R T U,Sx (Frm.of w0) 31 M M1 [oneB none,R,oneB none,oneB T,U] [(2,dt x2),(3,dt x3),(31,dfz c6)] [(10,3,dbox T 0 yC),(12,4,dow (Ow.box (owDisk (Ow.frz (α:=Tree)) (Ow.row 235 (Ow.frz (α:=Dir))))) U ⟨yC⟩),(21,1,dow (owDisk (Ow.frz (α:=Tree)) (Ow.row 235 (Ow.frz (α:=Dir)))) R (⟨x1,v11,v17⟩:Disk))] a w) ?_ λ n48=>?_
 ·rintro _ _ ⟨_,R,T,U,j⟩
  refine aK1 10 ?_
  refine j.nmB (s:=12) 4 [10,21] λ b57 j=>?_
  refine j.stO (sb:=12) (tv:=21) 4 1 (PV.root.box Z) (zD Z) [2,3,31] [10] λ _ _ j=>?_
  have j:=j.gn
  have j:=j.unm (s:=12) 4 [10]
  refine aHN (j.fzS (g:=31)) ?_
  refine aK0 (Ka ?_)
  refine j.nmB (s:=12) 4 [10] λ b60 j=>?_
  refine j.ldK (sb:=12) 4 2 Z Z kT64 Z iI [2,3] Z [10] Z Z Z Z λ _ H61 _ _ j=>?_
  have j:=j.gn
  refine j.zh 2 [(10,3),(12,4),(22,2)] λ _ _ j=>?_
  have⟨v65,p65,h⟩:=bs h
  refine j.cT (sb:=22) (l:=[.tmp 23,.tmp 24]) 2 Z Z kN212 Z iI (.cons (tp Z) (.cons (tp Z) .nil)) (zdL p65) [] Z [10,12] Z Z λ _ _ _ _ j=>?_
  have j:=j.gn
  refine j.stRv (sb:=12) (tv:=25) 4 2 Z Z Z kT64 Z Z iI Z iI [] Z [10] Z Z Z λ _ _ j=>?_
  have j:=j.gn
  refine Kb ?_
  have⟨v72,p72,h⟩:=bs h
  refine j.nmB (s:=12) 4 [10] λ b70 j=>?_
  refine j.hdW (s:=12) 4 true (λ _=>(PV.root.box Z)) iI [10] λ cs71 hS71 j=>?_
  refine j.zo [(10,3),(12,4)] (λ _ _ j=>?_) (hs:=sc Z (xLw (sb:=12) (.head _) Z (hS71 Z) Z (zD Z) Z)<|sc Z (yH (l:=[.tmp 26]) j.ob.sub Z (.cons (zaT (sb:=12) j.ob 4 (PV.root.box Z) (.head _) Z (zbV Z (hS71 Z)) (tp Z) Z iI) .nil) (Yv p72) w8)<|segZ)
  have j:=j.ncf (s:=12) 4 [10]
  refine j.cq h (λ h=>?_) λ h=>?_
  ·refine Ka ?_
   refine j.zh 1 [(10,3)] (λ _ _ j=>?_) (hs:=sc Z (zT (parts:=[]) (ns:=[1,1,1]) (zs:=qy) Z Z (λ w a hl=>by simp) (λ w a hl=>Disk.parts (x:=(⟨wz,0,[]⟩:Disk)) (xh _ _) ⟨Z,trivial⟩ yj))<|.nil)
   refine j.stA 10 3 FldS.id (tp Z) [] [] λ _ _ j=>?_
   refine j.zh 1 [(10,3)] (λ _ _ j=>Kb ?_)
   obtain rfl:=Option.some.inj h
   exact j.y2
  have j:=j.unm (s:=12) 4 [10]
  have j:=j.frzB (s:=12) 4 [28] [10]
  refine Ka ?_
  refine j.zh 1 [(10,3)] λ _ _ j=>?_
  refine j.stA 10 3 FldS.id (tp Z) [] [] λ _ _ j=>?_
  refine j.zh 1 [(10,3)] (λ _ _ j=>Kb ?_)
  obtain rfl:=Option.some.inj h
  exact j.y2
 refine wd 2 511 (λ a w=>∃ M1 R T,Sx (Frm.of w0) 31 M M1 [oneB none,R,oneB none,oneB T,oneB none] [(2,dt x2),(3,dt x3),(31,dfz c6)] [(10,3,dbox T 0 yC),(21,1,dow (owDisk (Ow.frz (α:=Tree)) (Ow.row 235 (Ow.frz (α:=Dir)))) R (⟨x1,v11,v17⟩:Disk))] a w) ?_ λ n38=>?_
 ·rintro _ _ ⟨_,R,T,j⟩
  refine aK1 9 ?_
  refine j.alcW (ow:=(owDisk (Ow.frz (α:=Tree)) (Ow.row 235 (Ow.frz (α:=Dir))))) 4 (owDisk.z xh Ow.row_z) [2,3,31] [10,21] λ b88 _ _ _ j=>?_
  have j:=j.gn
  have j:=j.unm (s:=12) 4 [10,21]
  exact aHe n48 (j.fzS (g:=31))
 refine wd 2 767 (λ a w=>∃ M1 Q T U,Sx (Frm.of w0) 31 M M1 [Q,oneB none,oneB none,oneB T,U] [(2,dt x2),(3,dt x3),(13,dt x1),(17,dt v11),(31,dfz c6)] [(10,3,dbox T 0 yC),(12,4,dow (Ow.box (owDisk (Ow.frz (α:=Tree)) (Ow.row 235 (Ow.frz (α:=Dir))))) U ⟨yC⟩),(20,0,dow (Ow.row 235 (Ow.frz (α:=Dir))) Q v17)] a w) ?_ λ n42=>?_
 ·rintro _ _ ⟨_,Q,T,U,j⟩
  refine aK1 8 ?_
  refine j.bldW (ow:=(owDisk (Ow.frz (α:=Tree)) (Ow.row 235 (Ow.frz (α:=Dir))))) (parts:=[(0,.tmp 13),(1,.tmp 17),(2,.tmp 20)]) (ns:=[1,1,1]) (zs:=qy) (x:=(⟨x1,v11,v17⟩:Disk)) 1 [0] (FA ⟨by decide,Rep.len (α:=Tree) (OpdR.cells (tp Z) (λ s y hs=>j.st.has s y hs))⟩ (FA ⟨by decide,Rep.len (α:=Int) (OpdR.cells (tp Z) (λ s y hs=>j.st.has s y hs))⟩ (FA ⟨by decide,Ow.len _ (yx (j.st.has 20 _ Z))⟩ FN))) (((owDisk (Ow.frz (α:=Tree)) (Ow.row 235 (Ow.frz (α:=Dir))))).more (owDisk.mk (x:=(⟨x1,v11,v17⟩:Disk)) (g0:=noB) (OpdR.cells (tp Z) (λ s y hs=>j.st.has s y hs)) (OpdR.cells (tp Z) (λ s y hs=>j.st.has s y hs)) (yx (j.st.has 20 _ Z)) (λ b h1=>(λ h2=>h1.elim))) (λ b=>(λ hb=>hb.elim (λ hb=>hb.elim) (λ hb=>⟨0,by simp,hb⟩)))) [2,3,31] [10,12] (λ G91 _ _ j=>?_)
  have j:=j.gs (Gs':=[oneB none,G91,oneB none,oneB T,U])
  have j:=j.gs (Gs':=[oneB none,G91,oneB none,oneB T,U])
  exact aHe n48 (j.fzS (g:=31))
 refine wd 3 255 (λ a w=>∃ M1 Q T,Sx (Frm.of w0) 31 M M1 [Q,oneB none,oneB none,oneB T,oneB none] [(2,dt x2),(3,dt x3),(13,dt x1),(17,dt v11),(31,dfz c6)] [(10,3,dbox T 0 yC),(20,0,dow (Ow.row 235 (Ow.frz (α:=Dir))) Q v17)] a w) ?_ λ n30=>?_
 ·rintro _ _ ⟨_,Q,T,j⟩
  refine aK2 8 9 ?_ ?_
  ·refine j.bldW (ow:=(owDisk (Ow.frz (α:=Tree)) (Ow.row 235 (Ow.frz (α:=Dir))))) (parts:=[(0,.tmp 13),(1,.tmp 17),(2,.tmp 20)]) (ns:=[1,1,1]) (zs:=qy) (x:=(⟨x1,v11,v17⟩:Disk)) 1 [0] (FA ⟨by decide,Rep.len (α:=Tree) (OpdR.cells (tp Z) (λ s y hs=>j.st.has s y hs))⟩ (FA ⟨by decide,Rep.len (α:=Int) (OpdR.cells (tp Z) (λ s y hs=>j.st.has s y hs))⟩ (FA ⟨by decide,Ow.len _ (yx (j.st.has 20 _ Z))⟩ FN))) (((owDisk (Ow.frz (α:=Tree)) (Ow.row 235 (Ow.frz (α:=Dir))))).more (owDisk.mk (x:=(⟨x1,v11,v17⟩:Disk)) (g0:=noB) (OpdR.cells (tp Z) (λ s y hs=>j.st.has s y hs)) (OpdR.cells (tp Z) (λ s y hs=>j.st.has s y hs)) (yx (j.st.has 20 _ Z)) (λ b h1=>(λ h2=>h1.elim))) (λ b=>(λ hb=>hb.elim (λ hb=>hb.elim) (λ hb=>⟨0,by simp,hb⟩)))) [2,3,31] [10] (λ G94 _ _ j=>?_)
   have j:=j.gs (Gs':=[oneB none,G94,oneB none,oneB T,oneB none])
   have j:=j.gs (Gs':=[oneB none,G94,oneB none,oneB T,oneB none])
   exact aHe n38 (j.fzS (g:=31))
  ·refine j.alcW (ow:=(owDisk (Ow.frz (α:=Tree)) (Ow.row 235 (Ow.frz (α:=Dir))))) 4 (owDisk.z xh Ow.row_z) [2,3,13,17,31] [10,20] λ b97 _ _ _ j=>?_
   have j:=j.gn
   have j:=j.unm (s:=12) 4 [10,20]
   exact aHe n42 (j.fzS (g:=31))
 refine wd 3 639 (λ a w=>∃ M1 T U,Sx (Frm.of w0) 31 M M1 [oneB none,oneB none,oneB none,oneB T,U] [(2,dt x2),(3,dt x3),(13,dt x1),(17,dt v11),(19,dt x0.dirs),(31,dfz c6)] [(10,3,dbox T 0 yC),(12,4,dow (Ow.box (owDisk (Ow.frz (α:=Tree)) (Ow.row 235 (Ow.frz (α:=Dir))))) U ⟨yC⟩)] a w) ?_ λ n34=>?_
 ·rintro _ _ ⟨_,T,U,j⟩
  refine aK1 7 ?_
  refine j.cN (l:=[.tmp 19]) 0 (.cons (tp Z) .nil) (Wy p17).n [2,3,13,17,31] [10,12] λ _ _ _ _ j=>?_
  have j:=j.gn
  exact aHe n42 (j.fzS (g:=31))
 refine aK2 7 9 ?_ ?_
 ·refine j.cN (l:=[.tmp 19]) 0 (.cons (tp Z) .nil) (Wy p17).n [2,3,13,17,31] [10] λ _ _ _ _ j=>?_
  have j:=j.gn
  exact aHe n30 (j.fzS (g:=31))
 ·refine j.alcW (ow:=(owDisk (Ow.frz (α:=Tree)) (Ow.row 235 (Ow.frz (α:=Dir))))) 4 (owDisk.z xh Ow.row_z) [2,3,13,17,19,31] [10] λ b104 _ _ _ j=>?_
  have j:=j.gn
  have j:=j.unm (s:=12) 4 [10]
  exact aHe n34 (j.fzS (g:=31))
def w6(x0:Disk)(x1:File)(x2:Int):Option (Disk×Bool):=
(wN x0).bind λ v5=>
(gO ((!v5) == false) (z7 x2 (0:Int) (200:Int))).bind λ v6=>
if((!v5)||(!v6))=true then(some ((⟨wz,0,[]⟩:Disk),false))
else((jR x0.tree x1).bind λ v16=>
if(!v16.2)=true then(some ((⟨wz,0,[]⟩:Disk),false))
else((jS x0 v16.1 x1.root x1.pkg x2).bind λ v31=>
some (v31.1,v31.2)))
theorem zdM{x1:File}(h:w6 x0 x1 x2=some r):Fn prog 155 [dt x0,dt x1,dt x2] (dtup [dt r.1,dt r.2]):=by
 unfold w6 at h
 refine fnx (fn:=f155) 2 func155 Z Z (λ M _ _ j=>Kc (Ka ?_))
 refine j.segA 2 [2,3,4] [] λ _ _ j=>?_
 refine j.alA 0 xv [2,3,4] [] λ b3 _ _ _ j=>?_
 refine j.segA 1 [2,3,4] [(6,0)] (λ _ _ j=>Kb (za (Kc ?_)))
 have⟨v5,p5,v6,p6,h⟩:=Kg h
 refine j.sqB (sP 1 (r:=by exact sc Z (oK (Yv p5))<|sP 3 (r:=by exact sg Z Z (λ hg=>oK (ym (gh hg p6)))<|segC))) [2,3,4,17] [(6,0)] λ _ _ j=>?_
 refine j.cs h (λ _ h=>?_) λ _ h=>?_
 ·refine Kc (Ka ?_)
  refine j.segB 1 (sc Z (zT (parts:=[]) (ns:=[1,1,1]) (zs:=qy) Z Z (λ w a hl=>by simp) (λ w a hl=>Disk.parts (x:=(⟨wz,0,[]⟩:Disk)) (xh _ _) ⟨Z,trivial⟩ yj))<|.nil) [18] [(6,0)] λ _ _ j=>?_
  refine j.stA 6 0 FldS.id (tp Z) [] [] λ _ _ j=>?_
  refine j.segA 1 [7] [(6,0)] (λ _ _ j=>Kb (za ?_))
  refine wp_ret (zJ ?_)
  obtain rfl:=Option.some.inj h
  exact j.y2
 refine wp_skip (za (Kc (Ka ?_)))
 obtain⟨v16,p16,h⟩:=bsW h zao
 refine j.segA 7 [2,3,4,24,25] [(6,0)] λ _ _ j=>?_
 refine j.alA 1 xh [2,3,4,24,25] [6] λ b20 _ _ _ j=>?_
 refine j.stA 8 1 FldS.id (tp Z) [2,3,4,25] [6] λ _ _ j=>?_
 refine j.segA 1 [2,3,4,9] [(6,0),(8,1)] (λ _ _ j=>Kb (za (Kc ?_)))
 refine j.sqA [2,3,4,27] [(6,0),(8,1)] λ _ _ j=>?_
 refine j.cs h (λ _ h=>?_) λ _ h=>?_
 ·refine Kc (Ka ?_)
  refine j.segB 1 (sc Z (zT (parts:=[]) (ns:=[1,1,1]) (zs:=qy) Z Z (λ w a hl=>by simp) (λ w a hl=>Disk.parts (x:=(⟨wz,0,[]⟩:Disk)) (xh _ _) ⟨Z,trivial⟩ yj))<|.nil) [28] [(6,0)] λ _ _ j=>?_
  refine j.stA 6 0 FldS.id (tp Z) [] [] λ _ _ j=>?_
  refine j.segA 1 [7] [(6,0)] (λ _ _ j=>Kb (za ?_))
  refine wp_ret (zJ ?_)
  obtain rfl:=Option.some.inj h
  exact j.y2
 refine wp_skip (za (Kc (Ka ?_)))
 obtain⟨v31,p31,h⟩:=bsW h zap
 refine j.segC 10 [37,38] [(6,0)] λ _ _ j=>?_
 refine j.stA 6 0 FldS.id (tp Z) [38] [] λ _ _ j=>?_
 refine j.segA 1 [7] [(6,0)] (λ _ _ j=>Kb (za (wp_ret ?_)))
 obtain rfl:=Option.some.inj h
 exact j.y2
instance:Ct3 prog 155 dt dt dt (λ r=>dtup [dt r.1,dt r.2]) w6:=⟨λ h=>zdM h⟩
def wi(x0:Tree)(x1:Int):Option (Tree×Bool):=
(zX x0).bind λ v6=>
(gO ((!v6) == false) (i64 ((x0.files.length:Int) - (1:Int)))).bind λ v7=>
(gO ((!v6) == false) (z7 x1 (0:Int) v7)).bind λ v8=>
if((!v6)||(!v8))=true then(some ((⟨[]⟩:Tree),false))
else((j6 x0).bind λ v21=>
(XF v21.files x1).bind λ _v29=>
(i64 (x1+(1:Int))).bind λ v30=>
(JS v21.files v30).bind λ _v31=>
some ((⟨((cutL v21.files x1.toNat v30.toNat).take (x1.toNat+(v21.files.length - v30.toNat)))⟩:Tree),true))
theorem zcc{x0:Tree}{r:Tree×Bool}(h:wi x0 x1=some r):Fn prog 190 [dt x0,dt x1] (dtup [dt r.1,dt r.2]):=by
 refine fq1 5 func190 λ M _ _ y=>?_
 refine Ka ?_
 refine y.zg 1 λ _ _ y=>?_
 refine y.alA 3 xh [1,2] [] λ b3 _ _ _ y=>?_
 have y:=y.gn
 refine y.zh 1 [(4,3)] (λ _ _ y=>Kb ?_)
 have⟨v6,p6,v7,p7,h⟩:=Kg h
 have⟨v8,p8,h⟩:=bs h
 refine y.zd [(4,3)] h (λ _ _ y h=>?_) (λ _ _ y h=>?_) (hs:=sZ 1 (r:=by exact sc Z (oK (wL p6))<|sZ 6 (r:=by exact sg Z Z (λ hg=>xAr Z (zk hg Z) cI (gh hg p7))<|sg Z Z (λ hg=>oK (ym (gh hg p8)))<|segZ)))
 ·refine Ka ?_
  refine y.zh 1 [(4,3)] (λ _ _ y=>?_) (hs:=sc Z (zT (parts:=[]) (ns:=[1]) (zs:=W3) Z Z (λ w a hl=>by simp) (λ w a hl=>Tree.parts (x:=(⟨[]⟩:Tree)) yj))<|.nil)
  refine y.stA 4 3 FldS.id (tp Z) [] [] λ _ _ y=>?_
  refine y.zh 1 [(4,3)] (λ _ _ y=>Kb ?_)
  obtain rfl:=Option.some.inj h
  exact y.y2
 refine Ka ?_
 refine y.zh 1 [(4,3)] λ _ _ y=>?_
 have⟨v21,p21,h⟩:=bs h
 refine y.cN (l:=[.tmp 20]) 0 (.cons (tp Z) .nil) (Wx p21) [1] [4] λ _ _ _ _ y=>?_
 have y:=y.gn
 refine y.alcW (ow:=(owTree (Ow.row 59 (Ow.frz (α:=File))))) 4 (owTree.z Ow.row_z) [1] [4,21] λ b24 _ _ _ y=>?_
 have y:=y.gn
 refine y.stO (sb:=6) (tv:=21) 4 0 (PV.root.box Z) (zD Z) [1] [4] λ _ _ y=>?_
 have y:=y.gn
 refine Kb ?_
 have⟨v29,p29,v30,p30,h⟩:=Kg h
 have⟨v31,p31,h⟩:=bs h
 refine y.hdA 6 4 ((PV.root.box Z).fld owTree.f0) [4] λ g28 A28 _ hA28 y=>?_
 refine y.drnA (D:=[_,_,_,_,_,_,_,_,_]) zL 9 [[(6,nS)],[(22,0),(6,nS)],[(1,nS)],[(23,1),(24,2),(6,nS)],[(6,nS)],[(26,4),(6,nS)],[(1,nS)],[(28,6)],[(27,5),(29,7),(6,nS)],[(25,3),(30,8)],[(6,nS)],[(32,10),(31,9)]] [25,30] [(4,3),(6,4)] (λ _ _ y=>?_) (hs:=rc Z Z (xFa Z jq (zD Z))<|rc Z Z (xLc (sb:=6) (.head _) Z Z Z (tp Z) Z)<|rc Z Z (oM Z (tp Z))<|rc Z Z (xSlH (sb:=6) ((PV.root.box Z).fld owTree.f0) (.head _) Z Z Z kS34 (tp Z) (tp Z) p29)<|rc Z Z (xFa Z jq (zD Z))<|rc Z Z (xLc (sb:=6) (.head _) Z Z Z (tp Z) Z)<|rc Z Z (oM Z (tp Z))<|rc Z Z (xAr Z (tp Z) cI p30)<|rc Z Z (xSlL (sb:=6) ((PV.root.box Z).fld owTree.f0) (.head _) Z Z Z kS34 (tp Z) (tp Z) p31)<|.nil)
 refine y.apCut (sb:=6) (i:=x1) (j:=v30) 4 ((PV.root.box Z).fld owTree.f0) (.head _) Z Z Z kE34 Z iI (tp Z) (tp Z) p29 p31 (decide_eq_true (by first | omega | exact lt_i64 (by assumption))) [] rfl [4] rfl rfl λ _ _ y=>?_
 refine y.zh 1 [(4,3),(6,4)] (λ _ _ y=>?_) (hs:=sc Z (xFa Z jq (zD Z))<|.nil)
 refine y.stSh (sb:=6) 4 ((PV.root.box Z).fld owTree.f0) (.head _) Z Z Z Z kT34 Z iI (tp Z) (tp Z) (cut_le p29 p31 (decide_eq_true (by first | omega | exact lt_i64 (by assumption)))) [] rfl [4] rfl rfl (λ _ y=>Kb ?_)
 have y:=y.unm (s:=6) 4 [4]
 have y:=y.frzB (s:=6) 4 [] [4]
 refine Ka ?_
 refine y.zh 1 [(4,3)] λ _ _ y=>?_
 refine y.stA 4 3 FldS.id (tp Z) [] [] λ _ _ y=>?_
 refine y.zh 1 [(4,3)] (λ _ _ y=>Kb ?_)
 obtain rfl:=Option.some.inj h
 exact y.y2
instance:Ct2 prog 190 dt dt (λ r=>dtup [dt r.1,dt r.2]) wi:=⟨λ h=>zcc h⟩
def wj(x0:Disk)(x1:Int)(x2:Int):Option (Disk×Bool):=
(wN x0).bind λ v5=>
(gO ((!v5) == false) (z7 x2 (0:Int) (200:Int))).bind λ v6=>
if((!v5)||(!v6))=true then(some ((⟨wz,0,[]⟩:Disk),false))
else((wi x0.tree x1).bind λ v16=>
if(!v16.2)=true then(some ((⟨wz,0,[]⟩:Disk),false))
else((atI x0.tree.files x1).bind λ v31=>
(atI x0.tree.files x1).bind λ v32=>
(jS x0 v16.1 v31.root v32.pkg x2).bind λ v33=>
some (v33.1,v33.2)))
theorem zcd(h:wj x0 x1 x2=some r):Fn prog 156 [dt x0,dt x1,dt x2] (dtup [dt r.1,dt r.2]):=by
 refine fq1 2 func156 λ M _ _ j=>?_
 refine Ka ?_
 refine j.zg 1 λ _ _ j=>?_
 refine j.alA 0 xv [1,2,3] [] λ b3 _ _ _ j=>?_
 refine j.zh 1 [(6,0)] (λ _ _ j=>Kb ?_)
 have⟨v5,p5,v6,p6,h⟩:=Kg h
 refine j.zd [(6,0)] h (λ _ _ j h=>?_) (λ _ _ j h=>?_) (hs:=sZ 1 (r:=by exact sc Z (oK (Yv p5))<|sZ 3 (r:=by exact sg Z Z (λ hg=>oK (ym (gh hg p6)))<|segZ)))
 ·refine Ka ?_
  refine j.zh 1 [(6,0)] (λ _ _ j=>?_) (hs:=sc Z (zT (parts:=[]) (ns:=[1,1,1]) (zs:=qy) Z Z (λ w a hl=>by simp) (λ w a hl=>Disk.parts (x:=(⟨wz,0,[]⟩:Disk)) (xh _ _) ⟨Z,trivial⟩ yj))<|.nil)
  refine j.stA 6 0 FldS.id (tp Z) [] [] λ _ _ j=>?_
  refine j.zh 1 [(6,0)] (λ _ _ j=>Kb ?_)
  obtain rfl:=Option.some.inj h
  exact j.y2
 refine Ka ?_
 have⟨v16,p16,h⟩:=bs h
 refine j.zh 7 [(6,0)] λ _ _ j=>?_
 refine j.alA 1 xh [1,2,3,24,25] [6] λ b20 _ _ _ j=>?_
 refine j.stA 8 1 FldS.id (tp Z) [1,2,3,25] [6] λ _ _ j=>?_
 refine j.zh 1 [(6,0),(8,1)] (λ _ _ j=>Kb ?_)
 refine j.zd [(6,0),(8,1)] h (λ _ _ j h=>?_) λ _ _ j h=>?_
 ·refine Ka ?_
  refine j.zh 1 [(6,0)] (λ _ _ j=>?_) (hs:=sc Z (zT (parts:=[]) (ns:=[1,1,1]) (zs:=qy) Z Z (λ w a hl=>by simp) (λ w a hl=>Disk.parts (x:=(⟨wz,0,[]⟩:Disk)) (xh _ _) ⟨Z,trivial⟩ yj))<|.nil)
  refine j.stA 6 0 FldS.id (tp Z) [] [] λ _ _ j=>?_
  refine j.zh 1 [(6,0)] (λ _ _ j=>Kb ?_)
  obtain rfl:=Option.some.inj h
  exact j.y2
 have⟨v31,p31,v32,p32,h⟩:=Kg h
 have⟨v33,p33,h⟩:=bs h
 refine j.zu 20 [(6,0)] (λ _ _ j=>?_) (hs:=sw Z (zr Z (tp Z))<|sw Z (wH Z (tp Z))<|sw Z (zA Disk.fld0 Z (tp Z))<|sw Z (zA Tree.fld0 Z (ht:=jq) (tp Z))<|sw Z (zr Z (tp Z))<|sw Z (oM Z (tp Z))<|sw Z (xIdx Z (tp Z) (tp Z) p31)<|sw Z (zA File.fld0 Z (tp Z))<|sw Z (zr Z (tp Z))<|sw Z (zA Disk.fld0 Z (tp Z))<|sw Z (zA Tree.fld0 Z (ht:=jq) (tp Z))<|sw Z (zr Z (tp Z))<|sw Z (oM Z (tp Z))<|sw Z (xIdx Z (tp Z) (tp Z) p32)<|sw Z (zA File.fld1 Z (tp Z))<|sw Z (zr Z (tp Z))<|sw Z (oM Z (tp Z))<|sw Z (zF (l:=[.tmp 29,.tmp 30,.tmp 37,.tmp 44,.tmp 45]) Z (.cons (tp Z) (.cons (tp Z) (.cons (tp Z) (.cons (tp Z) (.cons (tp Z) .nil))))) (zap p33))<|sw Z (xExt (i:=0) Z (tp Z) Z)<|sw Z (xExt (i:=1) Z (tp Z) Z)<|.nil)
 refine j.store (sb:=6) 0 FldS.id Z Z Z kT64 Z Z (tp Z) Z [48] Z [] Z Z λ _ _ j=>?_
 refine j.zh 1 [(6,0)] (λ _ _ j=>Kb ?_)
 obtain rfl:=Option.some.inj h
 exact j.y2
instance:Ct3 prog 156 dt dt dt (λ r=>dtup [dt r.1,dt r.2]) wj:=⟨λ h=>zcd h⟩
def ZH(x0:Tree)(x1:Int)(x2:Int)(x3:List Stmt):Option (Tree×Bool):=
(zX x0).bind λ v6=>
(gO ((!v6) == false) (i64 ((x0.files.length:Int) - (1:Int)))).bind λ v7=>
(gO ((!v6) == false) (z7 x1 (0:Int) v7)).bind λ v8=>
(gO (((!v6)||(!v8)) == false) (z7 x2 (0:Int) (99:Int))).bind λ v9=>
(gO ((((!v6)||(!v8))||(!v9)) == false) (yO x3)).bind λ v10=>
if((((!v6)||(!v8))||(!v9))||(!v10))=true then(some ((⟨[]⟩:Tree),false))
else((j6 x0).bind λ v25=>
(atI v25.files x1).bind λ v33=>
(appO 56 [] x3).bind λ v47=>
some ((⟨(v25.files.set x1.toNat ({ v33 with stamp:=x2,body:=v47 }))⟩:Tree),true))
theorem QK{x0:Tree}{r:Tree×Bool}(h:ZH x0 x1 x2 x3=some r):Fn prog 157 [dt x0,dt x1,dt x2,dt x3] (dtup [dt r.1,dt r.2]):=by
 refine fq1 6 func157 λ M _ _ j=>?_
 refine Ka ?_
 refine j.zg 1 λ _ _ j=>?_
 refine j.alA 4 xh [1,2,3,4] [] λ b3 _ _ _ j=>?_
 have j:=j.gn
 refine j.zh 1 [(8,4)] (λ _ _ j=>Kb ?_)
 have⟨v6,p6,v7,p7,h⟩:=Kg h
 have⟨v8,p8,v9,p9,h⟩:=Kg h
 have⟨v10,p10,h⟩:=bs h
 refine j.zd [(8,4)] h (λ _ _ j h=>?_) (λ _ _ j h=>?_) (hs:=sZ 1 (r:=by exact sc Z (oK (wL p6))<|sZ 6 (r:=by exact sg Z Z (λ hg=>xAr Z (zk hg Z) cI (gh hg p7))<|sg Z Z (λ hg=>oK (ym (gh hg p8)))<|sZ 4 (r:=by exact sg Z Z (λ hg=>oK (ym (gh hg p9)))<|sZ 4 (r:=by exact sg Z Z (λ hg=>oK (XU (gh hg p10)))<|segZ)))))
 ·refine Ka ?_
  refine j.zh 1 [(8,4)] (λ _ _ j=>?_) (hs:=sc Z (zT (parts:=[]) (ns:=[1]) (zs:=W3) Z Z (λ w a hl=>by simp) (λ w a hl=>Tree.parts (x:=(⟨[]⟩:Tree)) yj))<|.nil)
  refine j.stA 8 4 FldS.id (tp Z) [] [] λ _ _ j=>?_
  refine j.zh 1 [(8,4)] (λ _ _ j=>Kb ?_)
  obtain rfl:=Option.some.inj h
  exact j.y2
 refine Ka ?_
 refine j.zh 1 [(8,4)] λ _ _ j=>?_
 have⟨v25,p25,h⟩:=bs h
 refine j.cN (l:=[.tmp 34]) 0 (.cons (tp Z) .nil) (Wx p25) [1,2,3] [8] λ _ _ _ _ j=>?_
 have j:=j.gn
 refine j.alcW (ow:=(owTree (Ow.row 59 (Ow.frz (α:=File))))) 5 (owTree.z Ow.row_z) [1,2,3] [8,35] λ b28 _ _ _ j=>?_
 have j:=j.gn
 refine j.stO (sb:=10) (tv:=35) 5 0 (PV.root.box Z) (zD Z) [1,2,3] [8] λ _ _ j=>?_
 have j:=j.gn
 refine Kb (Ka ?_)
 have⟨v33,p33,h⟩:=bs h
 refine j.hdA 10 5 ((PV.root.box Z).fld owTree.f0) [8] λ g32 A32 _ hA32 j=>?_
 refine j.zh 6 [(8,4),(10,5)] (λ _ _ j=>?_) (hs:=sc Z (xFa Z jq (zD Z))<|sc Z (xLc (sb:=10) (.head _) Z Z Z (tp Z) Z)<|sZ 2 (r:=by exact sc Z (xIa (g:=g32) Z kS34 (tp Z) (tp Z) Z (λ h=>hA32 h Z) p33)<|segZ))
 refine j.sfA 10 5 ((((PV.root.box Z).fld owTree.f0).row (.head _) Z (λ h=>hA32 h Z) p33).fld File.z4) (tp Z) (tp Z) [1,3] [8] (λ _ j=>Kb ?_)
 refine j.hdA 10 5 ((PV.root.box Z).fld owTree.f0) [8] λ g37 A37 c37 hA37 j=>?_
 refine j.held (λ w=>w.cell? ⟨b28,0,none⟩=some (.slice A37 ((v25.files.set x1.toNat ({ v33 with stamp:=x2 })).length) c37)) zL λ _ j=>?_
 refine j.tk (i:=0) Z Z (by decide +kernel) (by decide +kernel) (by decide +kernel) (λ _ _ _ h=>h) (j.cellS (sb:=10) (.head _)) (yFa Z jq (j.st.has 10 _ Z).1) λ _ j=>?_
 refine j.tk (i:=1) Z Z (by decide +kernel) (by decide +kernel) (by decide +kernel) (λ _ _ _ h=>h) (j.cellS (sb:=10) (.head _)) (yLd Z (j.st.has 42 _ Z)) λ _ j=>?_
 refine j.tM 2 1 (j.cellS (sb:=10) (.head _)) λ _ j=>?_
 refine j.tM 4 3 (j.cellS (sb:=10) (.head _)) λ _ j=>?_
 refine j.mvN (s:=43) (sb:=10) 5 2 ((PV.root.box Z).fld owTree.f0) (.head _) Z (yh Z Z) Z Z (by simp) (by simp) (by decide) Z iI [1,3,42,44,46] Z [8] Z Z Z Z (by decide) λ _ H43 j=>?_
 have⟨v47,p47,h⟩:=bs h
 refine aK1 3 ?_
 refine j.zh 1 [(8,4),(10,5),(43,2),(45,3)] (λ _ _ j=>?_) (hs:=sc Z (xn (α:=Stmt) (e:=177) Z)<|.nil)
 refine aHN (j.hkS (sb:=10)) ?_
 refine aK1 5 ?_
 refine j.apA 3 yV p47 [44] [8,10,43] λ g59 _ _ _ j=>?_
 have j:=j.gn
 refine aHN (j.hkS (sb:=10)) ?_
 refine aK1 6 ?_
 refine j.zh 1 [(8,4),(10,5),(43,2),(47,3)] (λ _ _ j=>?_) (hs:=sc Z (xIaN Z kS34 Z (tp Z) (λ h=>hA37 h Z) (xf p33))<|.nil)
 refine aHN (j.hkS (sb:=10)) ?_
 refine aK1 7 ?_
 refine j.zh 1 [(8,4),(10,5),(43,2),(47,3)] λ _ _ j=>?_
 refine aHN (j.hkS (sb:=10)) ?_
 refine aK1 8 ?_
 have j:=j.frz 3 (s:=47) Z Z [49] Z [8,10,43] Z
 refine j.sfA 43 2 (((PV.root.row Z (λ h=>hA37 h Z) (xf p33)).conv (upd':=λ z=>(v25.files.set x1.toNat z)) (λ _=>by simp only[List.set_set])).fld File.z5) (tp Z) (tp Z) [] [8,10] λ _ j=>?_
 have j:=j.gn
 refine aHN (j.hkS (sb:=10)) ?_
 refine aK0 ?_
 refine j.stG (s:=43) (sb:=10) 5 2 Z (by simp) (by simp) (by decide) Z Z iI iI [] Z [8] Z Z Z λ _ j=>?_
 have j:=j.gn
 have j:=j.unm (s:=10) 5 [8]
 have j:=j.frzB (s:=10) 5 [] [8]
 refine Ka ?_
 refine j.zh 1 [(8,4)] λ _ _ j=>?_
 refine j.stA 8 4 FldS.id (tp Z) [] [] λ _ _ j=>?_
 refine j.zh 1 [(8,4)] (λ _ _ j=>Kb ?_)
 obtain rfl:=Option.some.inj h
 exact j.y2
instance:Ct4 prog 157 dt dt dt dt (λ r=>dtup [dt r.1,dt r.2]) ZH:=⟨λ h=>QK h⟩
def wT(x0:Disk)(x1:GAct)(x2:Int):Option (Disk×Bool):=
if cmpI .eql x1.kind 0 then((je x1.file).bind λ v9=>
(i64 (x0.clock+x2)).bind λ v16=>
(w6 x0 ({ v9 with stamp:=(if v16<(99:Int) then v16 else(99:Int)) }) x2).bind λ v21=>
some (v21.1,v21.2))
else(if cmpI .eql x1.kind 1 then((wj x0 x1.index x2).bind λ v30=>
some (v30.1,v30.2))
else((i64 (x0.clock+x2)).bind λ v36=>
(ZH x0.tree x1.index (if v36<(99:Int) then v36 else(99:Int)) x1.file.body).bind λ v37=>
if(!v37.2)=true then(some ((⟨wz,0,[]⟩:Disk),false))
else((i64 (x0.clock+x2)).bind λ v53=>
(ZG x0.dirs).bind λ v54=>
some ((⟨v37.1,v53,v54⟩:Disk),true))))
theorem za3{x1:GAct}(h:wT x0 x1 x2=some r):Fn prog 115 [dt x0,dt x1,dt x2] (dtup [dt r.1,dt r.2]):=by
 refine fq1 3 func115 λ M _ _ j=>?_
 refine Ka ?_
 refine j.zg 2 λ _ _ j=>?_
 refine j.alA 0 xv [2,3,4] [] λ b3 _ _ _ j=>?_
 refine j.zh 1 [(6,0)] (λ _ _ j=>Kb ?_)
 refine j.zo [(6,0)] λ _ _ j=>?_
 refine j.zd [(6,0)] h (λ _ _ j h=>?_) λ _ _ j h=>?_
 ·refine Ka ?_
  have⟨v9,p9,h⟩:=bs h
  refine j.zh 3 [(6,0)] λ _ _ j=>?_
  refine j.alA 1 JD [2,3,17] [6] λ b13 _ _ _ j=>?_
  refine j.stA 8 1 FldS.id (tp Z) [2,3] [6] (λ _ _ j=>Kb (Ka ?_))
  have⟨v16,p16,h⟩:=bs h
  refine j.zh 6 [(6,0),(8,1),(23,1)] (λ _ _ j=>?_) (hs:=sZ 4 (r:=by exact sc Z (xMin Z cI (tp Z))<|segZ))
  refine j.stA 8 1 File.set4 (tp Z) [2,3] [6] (λ _ _ j=>Kb (Ka ?_))
  have⟨v21,p21,h⟩:=bs h
  refine j.zh 6 [(6,0)] λ _ _ j=>?_
  refine j.stA 6 0 FldS.id (tp Z) [29] [] λ _ _ j=>?_
  refine j.zh 1 [(6,0)] (λ _ _ j=>Kb ?_)
  obtain rfl:=Option.some.inj h
  exact j.y2
 refine j.zd [(6,0)] h (λ _ _ j h=>?_) λ _ _ j h=>?_
 ·refine Ka ?_
  have⟨v30,p30,h⟩:=bs h
  refine j.zh 7 [(6,0)] λ _ _ j=>?_
  refine j.stA 6 0 FldS.id (tp Z) [38] [] λ _ _ j=>?_
  refine j.zh 1 [(6,0)] (λ _ _ j=>Kb ?_)
  obtain rfl:=Option.some.inj h
  exact j.y2
 refine Ka ?_
 have⟨v36,p36,v37,p37,h⟩:=Kg h
 refine j.zh 16 [(6,0)] (λ _ _ j=>?_) (hs:=sZ 8 (r:=by exact sc Z (xMin Z cI (tp Z))<|sZ 3 (r:=by exact sc Z (oK (QK p37))<|segZ)))
 refine j.alA 2 xh [2,3,53,54] [6] λ b42 _ _ _ j=>?_
 refine j.stA 9 2 FldS.id (tp Z) [2,3,54] [6] λ _ _ j=>?_
 refine j.zh 1 [(6,0),(9,2)] (λ _ _ j=>Kb ?_)
 refine j.zd [(6,0),(9,2)] h (λ _ _ j h=>?_) λ _ _ j h=>?_
 ·refine Ka ?_
  refine j.zh 1 [(6,0)] (λ _ _ j=>?_) (hs:=sc Z (zT (parts:=[]) (ns:=[1,1,1]) (zs:=qy) Z Z (λ w a hl=>by simp) (λ w a hl=>Disk.parts (x:=(⟨wz,0,[]⟩:Disk)) (xh _ _) ⟨Z,trivial⟩ yj))<|.nil)
  refine j.stA 6 0 FldS.id (tp Z) [] [] λ _ _ j=>?_
  refine j.zh 1 [(6,0)] (λ _ _ j=>Kb ?_)
  obtain rfl:=Option.some.inj h
  exact j.y2
 have⟨v53,p53,v54,p54,h⟩:=Kg h
 refine j.zu 9 [(6,0)] (λ _ _ j=>?_) (hs:=sV 7 (r:=by exact sw Z (zF (l:=[.tmp 64]) Z (.cons (tp Z) .nil) ((Wy p54)).fn)<|sw Z (Qp Z (tp Z) (tp Z) (tp Z))<|.nil))
 refine j.store (sb:=6) 0 FldS.id Z Z Z kT64 Z Z (tp Z) Z [] Z [] Z Z λ _ _ j=>?_
 refine j.zh 1 [(6,0)] (λ _ _ j=>Kb ?_)
 obtain rfl:=Option.some.inj h
 exact j.y2
instance:Ct3 prog 115 dt dt dt (λ r=>dtup [dt r.1,dt r.2]) wT:=⟨λ h=>za3 h⟩
def ZI(R:Rec)(x0:Disk)(x1:List Int)(x2:GAct)(x3:Int)(x4:Warmth):Option (Disk×(List Int)):=
if cmpI .neq x2.kind 3 then((wT x0 x2 x3).bind λ v9=>
if(!v9.2)=true then(some (x0,([(0:Int)]:List Int)))
else(some (v9.1,([(1:Int)]:List Int))))
else((XP x0.tree x1 (120:Int)).bind λ v31=>
(R.spec_importName ({ v31 with warm:=⟨{ x4 with disk:=x0 }⟩ }) x2.name).bind λ v46=>
(appO 8 [v46.1.fin] v46.1.out).bind λ v67=>
some (x0,v67))
theorem QL(hR:R.ok){x1:List Int}{x2:GAct}{x3:Int}{r:Disk×(List Int)}(h:ZI R x0 x1 x2 x3 x4=some r):FnTL prog 74 (Ow.box (Ow.frz (α:=Warmth))) [dt x0,dt x1,dt x2,dt x3] ⟨x4⟩ (.frz (dtup [dt r.1,dt r.2])):=by
 unfold ZI at h
 refine fnTL (fn:=f74) 4 1 5 Z func74 Z (oD Z) Z (λ M G _ _ j=>Kc (Ka ?_))
 refine j.segA 2 [1,3,5,7] [(4,1)] λ _ _ j=>?_
 refine j.alA 3 xv [1,3,5,7] [4] λ b3 _ _ _ j=>?_
 have j:=j.gn
 refine j.segB 1 (sc Z (oA Z (jl (α:=Int)))<|.nil) [1,3,5,7] [(4,1),(10,3)] (λ _ _ j=>Kb (za (Kc ?_)))
 refine j.sqA [1,3,5,7,17] [(4,1),(10,3)] λ _ _ j=>?_
 refine j.cs h (λ _ h=>?_) λ _ h=>?_
 ·refine Kc (Ka ?_)
  obtain⟨v9,p9,h⟩:=bsW h za3
  refine j.segA 7 [5,23,24] [(10,3)] λ _ _ j=>?_
  refine j.alA 4 xv [5,23,24] [10] λ b13 _ _ _ j=>?_
  have j:=j.gn
  refine j.stA 12 4 FldS.id (tp Z) [5,24] [10] λ _ _ j=>?_
  refine j.segA 1 [5,13] [(10,3),(12,4)] (λ _ _ j=>Kb (za (Kc ?_)))
  refine j.sqA [5,26] [(10,3),(12,4)] λ _ _ j=>?_
  refine j.cs h (λ _ h=>?_) λ _ h=>?_
  ·refine Kc (Ka ?_)
   refine j.segB 2 (sP 1 (r:=by exact sc Z (xt (opds:=[.const (.int .i64 0)]) Z Z Z (.cons cI .nil))<|.nil)) [27,28] [(10,3)] λ _ _ j=>?_
   refine j.stA 10 3 FldS.id (tp Z) [28] [] λ _ _ j=>?_
   refine j.segA 1 [11] [(10,3)] (λ _ _ j=>Kb (za ?_))
   refine wp_ret (zJ (zJ ?_))
   obtain rfl:=Option.some.inj h
   exact j.rt2F kT64 (j.frozen (t:=11))
  refine wp_skip (za (Kc (Ka ?_)))
  refine j.segB 2 (sP 1 (r:=by exact sc Z (xt (opds:=[.const (.int .i64 1)]) Z Z Z (.cons cI .nil))<|.nil)) [29,30] [(10,3)] λ _ _ j=>?_
  refine j.stA 10 3 FldS.id (tp Z) [30] [] λ _ _ j=>?_
  refine j.segA 1 [11] [(10,3)] (λ _ _ j=>Kb (za ?_))
  refine wp_ret (zJ ?_)
  obtain rfl:=Option.some.inj h
  exact j.rt2F kT64 (j.frozen (t:=11))
 refine wp_skip (za (Kc (Ka ?_)))
 refine j.segA 3 [5,7,32,33] [(4,1),(10,3)] λ _ _ j=>?_
 have⟨v31,p31,h⟩:=bs h
 refine j.cN (l:=[.tmp 32,.tmp 33,.const (.int .i64 120)]) 2 (.cons (tp Z) (.cons (tp Z) (.cons cI .nil))) (zcM p31) [5,7] [4,10] λ _ _ _ _ j=>?_
 have j:=j.gn
 refine j.nmB (s:=34) 2 [4,10] λ b34 j=>?_
 refine j.segA 1 [5,7] [(4,1),(10,3),(14,2)] (λ _ _ j=>Kb (za (Kc (Ka ?_))))
 refine j.nmB (s:=4) 1 [10,14] λ b36 j=>?_
 refine j.segB 4 (sc Z (oM Z (tp Z))<|sc Z (oM Z (tp Z))<|sc Z (xNcN Z Z)<|sc Z (xFa Z kF86_7 (zD Z))<|.nil) [5,7,38] [(4,1),(10,3),(14,2),(36,1)] λ _ _ j=>?_
 refine j.stHk (sb:=14) 2 ((PV.root.box Z).fld owRunner.f7) Z Z Z kT84 Z (tp Z) (zD Z) Z iI [5,7] Z [4,10] Z Z (λ _ j=>Kb (za (Kc (Ka ?_))))
 refine j.segB 4 (sc Z (oM Z (tp Z))<|sc Z (zr Z (tp Z))<|sc Z (xNcN Z Z)<|sc Z (xFa Z kF132_1 (zD Z))<|.nil) [5,7,40,42] [(4,1),(10,3),(14,2)] λ _ _ j=>?_
 refine j.stF (sb:=4) 1 ((PV.root.box Z).fld Warmth.z1) (tp Z) (tp Z) [5,7] [10,14] (λ _ j=>Kb (za ?_))
 have j:=j.frzN (s:=4) 1 Z iI [5,7] Z [10,14] Z Z
 refine j.stG (s:=4) (sb:=14) 2 1 Z (by simp) (by simp) (by decide) Z Z iI (λ _ h=>h.elim) [5,7] Z [10] Z Z Z λ _ j=>?_
 have j:=j.gn
 refine Kc (Ka ?_)
 refine j.segA 3 [5,45] [(10,3),(14,2),(43,2)] λ _ _ j=>?_
 have⟨v46,p46,h⟩:=bs h
 refine j.cSF (l:=[.tmp 45]) 2 (j.bkN (s:=14) Z iI) Z Z kN83 ((j.st.has 43 _ Z).1.trans (j.st.has 14 _ Z).1.symm) (by simp) (.cons (tp Z) .nil) (hR.spec_importName p46) [5] Z [10] Z Z (by decide) λ _ _ _ _ j=>?_
 have j:=j.gn
 refine Kb (za (Kc ?_))
 have j:=j.unm (s:=14) 2 [10]
 have j:=j.frzB (s:=14) 2 [5,46] [10]
 refine j.heldF zL λ _ _ hz51 j=>?_
 refine j.tkLp (i:=0) (j.fzS (g:=58)) hz51 (tp Z) λ _ j=>?_
 refine j.tM 1 14 (j.fzS (g:=58)) λ _ j=>?_
 refine j.tkNp (i:=2) Z Z (j.fzS (g:=58)) Z (tp Z) (next:=λ a54 j=>?_)
 refine j.tkFp (i:=3) (j.fzS (g:=58)) Runner.fld5 kF86_5 (tp Z) (next:=λ a55 j=>?_)
 refine j.tkLp (i:=4) (j.fzS (g:=58)) hz51 (tp Z) λ _ j=>?_
 refine j.tM 6 14 (j.fzS (g:=58)) λ _ j=>?_
 refine j.tkNp (i:=7) Z Z (j.fzS (g:=58)) Z (tp Z) (next:=λ a58 j=>?_)
 refine j.tkFp (i:=8) (j.fzS (g:=58)) Runner.fld4 kF86_4 (tp Z) (next:=λ a59 j=>?_)
 refine j.tkLp (i:=9) (j.fzS (g:=58)) hz51 (tp Z) λ _ j=>?_
 have⟨v67,p67,h⟩:=bs h
 refine aK1 5 ?_
 refine j.litW (oe:=(Ow.frz (α:=Int))) (opds:=[.tmp 51]) (xs:=[v46.1.fin]) 0 [] kI25 kY25 (qf (oe:=(Ow.frz (α:=Int))) (G1:=noB) (qV (j.st.has 51 _ Z)) (λ _ h=>h.elim)) (λ q hq=>by
 simp only[List.mem_cons,List.not_mem_nil,or_false] at hq
 subst hq
 exact Rep.len (qV (j.st.has 51 _ Z))) [47,56,58] [10] (λ G75 _ _ _ j=>?_)
 have j:=j.gs (Gs':=[G75,oneB none,oneB none,oneB (some b3),oneB none])
 refine aHN (j.fzS (g:=58)) ?_
 refine aK1 10 ?_
 refine j.tipR (s:=52) 0 (by first | (simp;done) | exact oD rfl) [10] λ g78 j=>?_
 refine j.apA 0 yV p67 [47,58] [10] λ g80 _ _ _ j=>?_
 have j:=j.gn
 refine aHN (j.fzS (g:=58)) ?_
 refine aK1 11 ?_
 refine j.stA 10 3 FldS.id (tp Z) [58] [57] λ _ _ j=>?_
 refine aHN (j.fzS (g:=58)) ?_
 refine aK1 12 ?_
 refine j.segA 1 [58] [(10,3),(11,0)] λ _ _ j=>?_
 refine aHN (j.fzS (g:=58)) ?_
 refine aK0 (za (wp_ret ?_))
 obtain rfl:=Option.some.inj h
 exact j.rt2F kT64 (j.frozenT (t:=11) 0 Z iI)
def xQ(R:Rec)(x0:List GAct)(x1:List Int)(x2:Int)(s23:(List (List Int))×Disk×Int):Option (((List (List Int))×Disk×Int)⊕(List (List Int))):=
if(cmpI .lss s23.2.2 (x0.length:Int))=true then((atI x0 s23.2.2).bind λ v32=>
(ZI R s23.2.1 x1 v32 x2 (⟨false,yC,jW,[],0⟩:Warmth)).bind λ v44=>
(appO 24 s23.1 ([v44.2]:List (List Int))).bind λ v146=>
(i64 (s23.2.2+(1:Int))).bind λ v150=>
some (.inl (v146,v44.1,v150)))
else(some (.inr s23.1))
def ZJ(R:Rec)(x0:List GAct)(x1:List Int)(x2:Int):Option (List (List Int)):=
(Zj x0).bind λ v2=>
(gO ((!v2) == false) (jC x1)).bind λ v3=>
(gO (((!v2)||(!v3)) == false) (z7 x2 (0:Int) (4:Int))).bind λ v4=>
if(((!v2)||(!v3))||(!v4))=true then(some [])
else((Xt).bind λ v13=>
Option.bind (α:=(List (List Int))) (zE (λ s23=>xQ R x0 x1 x2 s23) ([],v13,(0:Int))) λ o21=>
some o21)
theorem zdm(hR:R.ok){x0:List GAct}{x1:List Int}{r:List (List Int)}(h:ZJ R x0 x1 x2=some r):FnOwn prog 25 [dt x0,dt x1,dt x2] 25 r:=by
 refine fqO 4 func25 λ M w0 _ y=>?_
 refine y.z1 (λ _ _ y=>?_) (hs:=sc Z (oA Z (Z1 (α:=List Int) (e:=25)))<|.nil)
 have⟨v2,p2,v3,p3,h⟩:=Kg h
 have⟨v4,p4,h⟩:=bs h
 refine y.zc h (λ _ _ y h=>?_) (λ _ _ y h=>?_) (hs:=sZ 1 (r:=by exact sc Z (oK (J4 p2))<|sZ 3 (r:=by exact sg Z Z (λ hg=>oK (XO (gh hg p3)))<|sZ 4 (r:=by exact sg Z Z (λ hg=>oK (ym (gh hg p4)))<|segZ))))
 ·exact y.zl 0 h (hs:=sc Z (oA Z (Z1 (α:=List Int) (e:=25)))<|.nil)
 refine y.zo [(7,0)] (λ _ _ y=>?_) (hs:=sc Z (xn (α:=List Int) (e:=25) Z)<|segZ)
 refine Ka ?_
 have⟨v13,p13,h⟩:=bs h
 refine y.zh 1 [(7,0)] λ _ _ y=>?_
 refine y.alA 2 xv [0,1,2,26] [7] λ b17 _ _ _ y=>?_
 have y:=y.gn
 refine y.stA 8 2 FldS.id (tp Z) [0,1,2] [7] (λ _ _ y=>Kb (za ?_))
 have⟨o21,p21,k21⟩:=bs h
 refine wqj (λ a w=>∃ M1 Q T U V,Sx (Frm.of w0) 52 M M1 [oneB Q,T,oneB U,oneB V] [] [(7,0,dtip Q 25 o21)] a w) ?_ ?_
 ·refine y.zo [(7,0),(8,2)] λ _ _ y=>?_
  refine wql p21 (λ s23 a w=>∃ M1 Q T U V,Sx (Frm.of w0) 52 M M1 [oneB Q,T,oneB U,oneB V] [(0,dt x0),(1,dt x1),(2,dt x2),(9,dt s23.2.2)] [(7,0,dtip Q 25 s23.1),(8,2,dbox U 0 s23.2.1)] a w) fx ?_
  rintro s23 z23 _ _ ⟨_,Q,T,U,V,y⟩ hs23 hx23
  have h:xQ R x0 x1 x2 s23=some z23:=hs23
  unfold xQ at h
  refine y.zd [(7,0),(8,2)] h (λ _ _ y h=>?_) λ _ _ y h=>?_
  ·refine y.heldF zL λ c28 _ hz28 y=>?_
   refine y.tM 1 1 (y.fzS (g:=52)) λ _ y=>?_
   refine y.tM 2 0 (y.fzS (g:=52)) λ _ y=>?_
   refine y.tM 3 9 (y.fzS (g:=52)) λ _ y=>?_
   have⟨v32,p32,h⟩:=bs h
   refine y.tkIF (i:=4) Z Z (λ _ _ _ _ h=>h) (y.fzS (g:=52)) Z kS51 (tp Z) (tp Z) p32 (next:=λ a33 y=>?_)
   refine y.tkLp (i:=5) (y.fzS (g:=52)) hz28 (tp Z) λ _ y=>?_
   refine y.tM 6 2 (y.fzS (g:=52)) λ _ y=>?_
   refine y.tkB (i:=7) (parts:=[]) (ns:=[1,3,3,1,1]) (zs:=zpWarmth) (y.fzS (g:=52)) (λ w a hl=>by simp) (λ w a hl=>Warmth.parts (x:=(⟨false,yC,jW,[],0⟩:Warmth)) ⟨Z,trivial⟩ (xv _ _) (zrFinder _ _) yj ⟨Z,trivial⟩) λ _ y=>?_
   have⟨v44,p44,h⟩:=bs h
   refine wd 1 32767 (λ a w=>∃ M1 Q U V,Sx (Frm.of w0) 52 M M1 [oneB Q,oneB none,oneB U,oneB V] [(0,dt x0),(1,dt x1),(2,dt x2),(9,dt s23.2.2),(45,dt v44.2),(52,dfz c28)] [(7,0,dtip Q 25 s23.1),(8,2,dbox U 0 s23.2.1),(10,3,dbox V 0 v44.1)] a w) ?_ λ n136=>?_
   ·rintro _ _ ⟨_,Q,U,V,y⟩
    refine aK1 15 ?_
    refine y.zh 1 [(7,0),(8,2),(10,3)] λ _ _ y=>?_
    refine aHN (y.fzS (g:=52)) ?_
    refine aK0 (Ka ?_)
    refine y.zh 1 [(7,0),(8,2)] λ _ _ y=>?_
    refine y.stA 8 2 FldS.id (tp Z) [0,1,2,9,11] [7] (λ _ _ y=>Kb (Ka ?_))
    refine y.zh 3 [(7,0),(8,2),(47,0)] λ _ _ y=>?_
    have⟨v146,p146,h⟩:=bs h
    refine y.apA 0 yV p146 [0,1,2,9] [8] λ g145 _ _ _ y=>?_
    have y:=y.gn
    refine y.zh 1 [(7,0),(8,2)] (λ _ _ y=>Kb ?_)
    have⟨v150,p150,h⟩:=bs h
    exact y.zn [(7,0),(8,2)] h
   refine wd 2 16383 (λ a w=>∃ M1 Q U V,Sx (Frm.of w0) 52 M M1 [oneB Q,oneB none,oneB U,oneB V] [(0,dt x0),(1,dt x1),(2,dt x2),(9,dt s23.2.2),(44,dt v44.1),(45,dt v44.2),(52,dfz c28)] [(7,0,dtip Q 25 s23.1),(8,2,dbox U 0 s23.2.1),(10,3,dbox V 0 yC)] a w) ?_ λ n128=>?_
   ·rintro _ _ ⟨_,Q,U,V,y⟩
    refine aK1 14 ?_
    refine y.stA 10 3 FldS.id (tp Z) [0,1,2,9,45,52] [7,8] λ _ _ y=>?_
    exact aHe n136 (y.fzS (g:=52))
   refine wd 2 28671 (λ a w=>∃ M1 Q U V,Sx (Frm.of w0) 52 M M1 [oneB Q,oneB none,oneB U,oneB V] [(0,dt x0),(1,dt x1),(2,dt x2),(9,dt s23.2.2),(33,dtup [dt v44.1,dt v44.2]),(52,dfz c28)] [(7,0,dtip Q 25 s23.1),(8,2,dbox U 0 s23.2.1),(10,3,dbox V 0 v44.1)] a w) ?_ λ n132=>?_
   ·rintro _ _ ⟨_,Q,U,V,y⟩
    refine aK1 12 ?_
    refine y.zh 1 [(7,0),(8,2),(10,3)] λ _ _ y=>?_
    exact aHe n136 (y.fzS (g:=52))
   refine wd 3 8191 (λ a w=>∃ M1 Q U V,Sx (Frm.of w0) 52 M M1 [oneB Q,oneB none,oneB U,oneB V] [(0,dt x0),(1,dt x1),(2,dt x2),(9,dt s23.2.2),(44,dt v44.1),(45,dt v44.2),(52,dfz c28)] [(7,0,dtip Q 25 s23.1),(8,2,dbox U 0 s23.2.1)] a w) ?_ λ n113=>?_
   ·rintro _ _ ⟨_,Q,U,V,y⟩
    refine aK1 13 ?_
    refine y.alA 3 xv [0,1,2,9,44,45,52] [7,8] λ b157 _ _ _ y=>?_
    have y:=y.gn
    exact aHe n128 (y.fzS (g:=52))
   refine wd 3 12287 (λ a w=>∃ M1 Q U V,Sx (Frm.of w0) 52 M M1 [oneB Q,oneB none,oneB U,oneB V] [(0,dt x0),(1,dt x1),(2,dt x2),(9,dt s23.2.2),(44,dt v44.1),(33,dtup [dt v44.1,dt v44.2]),(52,dfz c28)] [(7,0,dtip Q 25 s23.1),(8,2,dbox U 0 s23.2.1),(10,3,dbox V 0 yC)] a w) ?_ λ n117=>?_
   ·rintro _ _ ⟨_,Q,U,V,y⟩
    refine aK2 12 14 ?_ ?_
    ·refine y.zh 1 [(7,0),(8,2),(10,3)] λ _ _ y=>?_
     exact aHe n128 (y.fzS (g:=52))
    ·refine y.stA 10 3 FldS.id (tp Z) [0,1,2,9,33,52] [7,8] λ _ _ y=>?_
     exact aHe n132 (y.fzS (g:=52))
   refine wd 3 14335 (λ a w=>∃ M1 Q U V,Sx (Frm.of w0) 52 M M1 [oneB Q,oneB none,oneB U,oneB V] [(0,dt x0),(1,dt x1),(2,dt x2),(9,dt s23.2.2),(45,dt v44.2),(33,dtup [dt v44.1,dt v44.2]),(52,dfz c28)] [(7,0,dtip Q 25 s23.1),(8,2,dbox U 0 s23.2.1),(10,3,dbox V 0 yC)] a w) ?_ λ n122=>?_
   ·rintro _ _ ⟨_,Q,U,V,y⟩
    refine aK1 11 ?_
    refine y.zh 1 [(7,0),(8,2),(10,3)] λ _ _ y=>?_
    exact aHe n128 (y.fzS (g:=52))
   refine wd 4 4095 (λ a w=>∃ M1 Q U V,Sx (Frm.of w0) 52 M M1 [oneB Q,oneB none,oneB U,oneB V] [(0,dt x0),(1,dt x1),(2,dt x2),(9,dt s23.2.2),(44,dt v44.1),(33,dtup [dt v44.1,dt v44.2]),(52,dfz c28)] [(7,0,dtip Q 25 s23.1),(8,2,dbox U 0 s23.2.1)] a w) ?_ λ n104=>?_
   ·rintro _ _ ⟨_,Q,U,V,y⟩
    refine aK2 12 13 ?_ ?_
    ·refine y.zh 1 [(7,0),(8,2)] λ _ _ y=>?_
     exact aHe n113 (y.fzS (g:=52))
    ·refine y.alA 3 xv [0,1,2,9,33,44,52] [7,8] λ b165 _ _ _ y=>?_
     have y:=y.gn
     exact aHe n117 (y.fzS (g:=52))
   refine wd 4 6143 (λ a w=>∃ M1 Q U V,Sx (Frm.of w0) 52 M M1 [oneB Q,oneB none,oneB U,oneB V] [(0,dt x0),(1,dt x1),(2,dt x2),(9,dt s23.2.2),(45,dt v44.2),(33,dtup [dt v44.1,dt v44.2]),(52,dfz c28)] [(7,0,dtip Q 25 s23.1),(8,2,dbox U 0 s23.2.1)] a w) ?_ λ n106=>?_
   ·rintro _ _ ⟨_,Q,U,V,y⟩
    refine aK2 11 13 ?_ ?_
    ·refine y.zh 1 [(7,0),(8,2)] λ _ _ y=>?_
     exact aHe n113 (y.fzS (g:=52))
    ·refine y.alA 3 xv [0,1,2,9,33,45,52] [7,8] λ b169 _ _ _ y=>?_
     have y:=y.gn
     exact aHe n122 (y.fzS (g:=52))
   refine wd 4 10239 (λ a w=>∃ M1 Q U V,Sx (Frm.of w0) 52 M M1 [oneB Q,oneB none,oneB U,oneB V] [(0,dt x0),(1,dt x1),(2,dt x2),(9,dt s23.2.2),(33,dtup [dt v44.1,dt v44.2]),(52,dfz c28)] [(7,0,dtip Q 25 s23.1),(8,2,dbox U 0 s23.2.1),(10,3,dbox V 0 yC)] a w) ?_ λ n110=>?_
   ·rintro _ _ ⟨_,Q,U,V,y⟩
    refine aK2 11 12 ?_ ?_
    ·refine y.zh 1 [(7,0),(8,2),(10,3)] λ _ _ y=>?_
     exact aHe n117 (y.fzS (g:=52))
    ·refine y.zh 1 [(7,0),(8,2),(10,3)] λ _ _ y=>?_
     exact aHe n122 (y.fzS (g:=52))
   refine wd 5 2047 (λ a w=>∃ M1 Q U V,Sx (Frm.of w0) 52 M M1 [oneB Q,oneB none,oneB U,oneB V] [(0,dt x0),(1,dt x1),(2,dt x2),(9,dt s23.2.2),(33,dtup [dt v44.1,dt v44.2]),(52,dfz c28)] [(7,0,dtip Q 25 s23.1),(8,2,dbox U 0 s23.2.1)] a w) ?_ λ n96=>?_
   ·rintro _ _ ⟨_,Q,U,V,y⟩
    refine aH3 (i:=11) (j:=12) (k:=13) Z Z Z ?_ ?_ ?_
    ·refine y.zh 1 [(7,0),(8,2)] λ _ _ y=>?_
     exact aHe n104 (y.fzS (g:=52))
    ·refine y.zh 1 [(7,0),(8,2)] λ _ _ y=>?_
     exact aHe n106 (y.fzS (g:=52))
    ·refine y.alA 3 xv [0,1,2,9,33,52] [7,8] λ b176 _ _ _ y=>?_
     have y:=y.gn
     exact aHe n110 (y.fzS (g:=52))
   refine wd 5 9215 (λ a w=>∃ M1 Q U V,Sx (Frm.of w0) 52 M M1 [oneB Q,oneB none,oneB U,oneB V] [(0,dt x0),(1,dt x1),(2,dt x2),(9,dt s23.2.2),(43,dtup [dt v44.1,dt v44.2]),(52,dfz c28)] [(7,0,dtip Q 25 s23.1),(8,2,dbox U 0 s23.2.1),(10,3,dbox V 0 yC)] a w) ?_ λ n100=>?_
   ·rintro _ _ ⟨_,Q,U,V,y⟩
    refine aK1 10 ?_
    refine y.zh 1 [(7,0),(8,2),(10,3)] λ _ _ y=>?_
    exact aHe n110 (y.fzS (g:=52))
   refine wd 6 1023 (λ a w=>∃ M1 Q U V,Sx (Frm.of w0) 52 M M1 [oneB Q,oneB none,oneB U,oneB V] [(0,dt x0),(1,dt x1),(2,dt x2),(9,dt s23.2.2),(43,dtup [dt v44.1,dt v44.2]),(52,dfz c28)] [(7,0,dtip Q 25 s23.1),(8,2,dbox U 0 s23.2.1)] a w) ?_ λ n86=>?_
   ·rintro _ _ ⟨_,Q,U,V,y⟩
    refine aK2 10 13 ?_ ?_
    ·refine y.zh 1 [(7,0),(8,2)] λ _ _ y=>?_
     exact aHe n96 (y.fzS (g:=52))
    ·refine y.alA 3 xv [0,1,2,9,43,52] [7,8] λ b181 _ _ _ y=>?_
     have y:=y.gn
     exact aHe n100 (y.fzS (g:=52))
   refine wd 6 8703 (λ a w=>∃ M1 Q T U V,Sx (Frm.of w0) 52 M M1 [oneB Q,T,oneB U,oneB V] [(0,dt x0),(1,dt x1),(2,dt x2),(9,dt s23.2.2),(34,dt s23.2.1),(35,dt x1),(39,dt v32),(40,dt x2),(52,dfz c28)] [(7,0,dtip Q 25 s23.1),(8,2,dbox U 0 s23.2.1),(10,3,dbox V 0 yC),(42,1,dow (Ow.box (Ow.frz (α:=Warmth))) T ⟨(⟨false,yC,jW,[],0⟩:Warmth)⟩)] a w) ?_ λ n90=>?_
   ·rintro _ _ ⟨_,Q,T,U,V,y⟩
    refine aK1 9 ?_
    refine y.cTL (sb:=42) (l:=[.tmp 34,.tmp 35,.tmp 39,.tmp 40]) 1 Z Z kN74 Z iI (.cons (tp Z) (.cons (tp Z) (.cons (tp Z) (.cons (tp Z) .nil)))) (QL hR p44) [0,1,2,9,52] Z [7,8,10] Z λ _ _ _ y=>?_
    have y:=y.gn
    exact aHe n100 (y.fzS (g:=52))
   refine wd 7 511 (λ a w=>∃ M1 Q T U V,Sx (Frm.of w0) 52 M M1 [oneB Q,T,oneB U,oneB V] [(0,dt x0),(1,dt x1),(2,dt x2),(9,dt s23.2.2),(34,dt s23.2.1),(35,dt x1),(39,dt v32),(40,dt x2),(52,dfz c28)] [(7,0,dtip Q 25 s23.1),(8,2,dbox U 0 s23.2.1),(42,1,dow (Ow.box (Ow.frz (α:=Warmth))) T ⟨(⟨false,yC,jW,[],0⟩:Warmth)⟩)] a w) ?_ λ n70=>?_
   ·rintro _ _ ⟨_,Q,T,U,V,y⟩
    refine aK2 9 13 ?_ ?_
    ·refine y.cTL (sb:=42) (l:=[.tmp 34,.tmp 35,.tmp 39,.tmp 40]) 1 Z Z kN74 Z iI (.cons (tp Z) (.cons (tp Z) (.cons (tp Z) (.cons (tp Z) .nil)))) (QL hR p44) [0,1,2,9,52] Z [7,8] Z λ _ _ _ y=>?_
     have y:=y.gn
     exact aHe n86 (y.fzS (g:=52))
    ·refine y.alA 3 xv [0,1,2,9,34,35,39,40,52] [7,8,42] λ b188 _ _ _ y=>?_
     have y:=y.gn
     exact aHe n90 (y.fzS (g:=52))
   refine wd 7 8447 (λ a w=>∃ M1 Q T U V,Sx (Frm.of w0) 52 M M1 [oneB Q,T,oneB U,oneB V] [(0,dt x0),(1,dt x1),(2,dt x2),(9,dt s23.2.2),(34,dt s23.2.1),(35,dt x1),(39,dt v32),(40,dt x2),(41,dt (⟨false,yC,jW,[],0⟩:Warmth)),(52,dfz c28)] [(7,0,dtip Q 25 s23.1),(8,2,dbox U 0 s23.2.1),(10,3,dbox V 0 yC)] a w) ?_ λ n74=>?_
   ·rintro _ _ ⟨_,Q,T,U,V,y⟩
    refine aK1 8 ?_
    refine y.boxZ 1 (tp Z) [0,1,2,9,34,35,39,40,52] [7,8,10] λ b190 _ _ _ y=>?_
    have y:=y.gn
    have y:=y.unm (s:=42) 1 [7,8,10]
    exact aHe n90 (y.fzS (g:=52))
   refine wd 7 8702 (λ a w=>∃ M1 Q T U V,Sx (Frm.of w0) 52 M M1 [oneB Q,T,oneB U,oneB V] [(0,dt x0),(1,dt x1),(2,dt x2),(9,dt s23.2.2),(35,dt x1),(39,dt v32),(40,dt x2),(52,dfz c28)] [(7,0,dtip Q 25 s23.1),(8,2,dbox U 0 s23.2.1),(10,3,dbox V 0 yC),(42,1,dow (Ow.box (Ow.frz (α:=Warmth))) T ⟨(⟨false,yC,jW,[],0⟩:Warmth)⟩)] a w) ?_ λ n79=>?_
   ·rintro _ _ ⟨_,Q,T,U,V,y⟩
    refine aK1 0 ?_
    refine y.zh 1 [(7,0),(8,2),(10,3),(42,1)] λ _ _ y=>?_
    exact aHe n90 (y.fzS (g:=52))
   refine wd 8 255 (λ a w=>∃ M1 Q T U V,Sx (Frm.of w0) 52 M M1 [oneB Q,T,oneB U,oneB V] [(0,dt x0),(1,dt x1),(2,dt x2),(9,dt s23.2.2),(34,dt s23.2.1),(35,dt x1),(39,dt v32),(40,dt x2),(41,dt (⟨false,yC,jW,[],0⟩:Warmth)),(52,dfz c28)] [(7,0,dtip Q 25 s23.1),(8,2,dbox U 0 s23.2.1)] a w) ?_ λ n58=>?_
   ·rintro _ _ ⟨_,Q,T,U,V,y⟩
    refine aK2 8 13 ?_ ?_
    ·refine y.boxZ 1 (tp Z) [0,1,2,9,34,35,39,40,52] [7,8] λ b194 _ _ _ y=>?_
     have y:=y.gn
     have y:=y.unm (s:=42) 1 [7,8]
     exact aHe n70 (y.fzS (g:=52))
    ·refine y.alA 3 xv [0,1,2,9,34,35,39,40,41,52] [7,8] λ b198 _ _ _ y=>?_
     have y:=y.gn
     exact aHe n74 (y.fzS (g:=52))
   refine wd 8 510 (λ a w=>∃ M1 Q T U V,Sx (Frm.of w0) 52 M M1 [oneB Q,T,oneB U,oneB V] [(0,dt x0),(1,dt x1),(2,dt x2),(9,dt s23.2.2),(35,dt x1),(39,dt v32),(40,dt x2),(52,dfz c28)] [(7,0,dtip Q 25 s23.1),(8,2,dbox U 0 s23.2.1),(42,1,dow (Ow.box (Ow.frz (α:=Warmth))) T ⟨(⟨false,yC,jW,[],0⟩:Warmth)⟩)] a w) ?_ λ n62=>?_
   ·rintro _ _ ⟨_,Q,T,U,V,y⟩
    refine aK2 0 13 ?_ ?_
    ·refine y.zh 1 [(7,0),(8,2),(42,1)] λ _ _ y=>?_
     exact aHe n70 (y.fzS (g:=52))
    ·refine y.alA 3 xv [0,1,2,9,35,39,40,52] [7,8,42] λ b202 _ _ _ y=>?_
     have y:=y.gn
     exact aHe n79 (y.fzS (g:=52))
   refine wd 8 8446 (λ a w=>∃ M1 Q T U V,Sx (Frm.of w0) 52 M M1 [oneB Q,T,oneB U,oneB V] [(0,dt x0),(1,dt x1),(2,dt x2),(9,dt s23.2.2),(35,dt x1),(39,dt v32),(40,dt x2),(41,dt (⟨false,yC,jW,[],0⟩:Warmth)),(52,dfz c28)] [(7,0,dtip Q 25 s23.1),(8,2,dbox U 0 s23.2.1),(10,3,dbox V 0 yC)] a w) ?_ λ n66=>?_
   ·rintro _ _ ⟨_,Q,T,U,V,y⟩
    refine aK2 0 8 ?_ ?_
    ·refine y.zh 1 [(7,0),(8,2),(10,3)] λ _ _ y=>?_
     exact aHe n74 (y.fzS (g:=52))
    ·refine y.boxZ 1 (tp Z) [0,1,2,9,35,39,40,52] [7,8,10] λ b205 _ _ _ y=>?_
     have y:=y.gn
     have y:=y.unm (s:=42) 1 [7,8,10]
     exact aHe n79 (y.fzS (g:=52))
   refine aH3 (i:=0) (j:=8) (k:=13) Z Z Z ?_ ?_ ?_
   ·refine y.zh 1 [(7,0),(8,2)] λ _ _ y=>?_
    exact aHe n58 (y.fzS (g:=52))
   ·refine y.boxZ 1 (tp Z) [0,1,2,9,35,39,40,52] [7,8] λ b209 _ _ _ y=>?_
    have y:=y.gn
    have y:=y.unm (s:=42) 1 [7,8]
    exact aHe n62 (y.fzS (g:=52))
   ·refine y.alA 3 xv [0,1,2,9,35,39,40,41,52] [7,8] λ b213 _ _ _ y=>?_
    have y:=y.gn
    exact aHe n66 (y.fzS (g:=52))
  have h:=lo h hx23
  cases h
  exact fz
 rintro _ _ ⟨_,Q,T,U,V,y⟩
 have h:=k21
 exact y.zl 0 h
end Go.Proofs.YtandbaloaenciaaGreatDoor
