import Derived.Test.YtandbaloaenciaaGreatDoorRO
import Derived.Test.YtandbaloaenciaaGreatDoorRH
import Derived.Test.YtandbaloaenciaaGreatDoorRB
import Derived.Test.YtandbaloaenciaaGreatDoorRN
import Derived.Test.YtandbaloaenciaaGreatDoorRQ
namespace Go.Proofs.YtandbaloaenciaaGreatDoor
open Go.RowKit Tryz
attribute [local irreducible] OpRel OpdR
set_option maxRecDepth 10000
set_option maxHeartbeats 1600000
variable{x0:Disk}{r:Disk×Bool}{x1 x2:Int}{x3:List Stmt}{R:Rec}
theorem kL51:isSl prog 51=true:=by kernel_rfl
theorem kS51:slB prog 51 9=true:=by kernel_rfl
theorem kZ61:zeroCells prog 61=some zcGAct:=by kernel_rfl
theorem kF61_0:fldB prog 61 0 0=true:=by kernel_rfl
theorem zbr:fldB prog 61 1 1=true:=by kernel_rfl
theorem kF61_3:fldB prog 61 3 8=true:=by kernel_rfl
theorem kS62:slB prog 62 4=true:=by kernel_rfl
theorem kT235:tyB prog 235 true 4=true:=by kernel_rfl
theorem kN229:fnB prog 229=true:=by kernel_rfl
theorem kF235_2:fldB prog 235 2 2=true:=by kernel_rfl
theorem kF235_3:fldB prog 235 3 3=true:=by kernel_rfl
theorem zam:fldB prog 64 1 1=true:=by kernel_rfl
theorem Xs:fldB prog 64 2 2=true:=by kernel_rfl
theorem kE34:elB prog 34 59 6 80=true:=by kernel_rfl
theorem kI62:sliB prog 62 235 4=true:=by kernel_rfl
theorem kY62:zlB prog 62=true:=by kernel_rfl
theorem kZ64:zeroCells prog 64=some zcDisk:=by kernel_rfl
theorem kT64:tyB prog 64 true 3=true:=by kernel_rfl
theorem kI120:sliB prog 120 9 1=true:=by kernel_rfl
theorem kD235_0_1_3:∀ {M:Nat->Prop} {look:Nat->Option Dt} {o:Oper} {q0 q1 q3:Operand} {y0:Int} {y1:Str} {y3:List Str},o.op=.build 235 #[(0,q0),(1,q1),(3,q3)]->OpdR M look q0 (dt y0)->OpdR M look q1 (dt y1)->OpdR M look q3 (dt y3)->OpRel prog M look o (dt (⟨y0,y1,0,y3⟩:Dir)):=@λ _ _ _ q0 q1 q3 y0 y1 y3 ho h0 h1 h3=>zT (parts:=[(0,q0),(1,q1),(3,q3)]) (ns:=[1,1,1,1]) (zs:=zpDir) Z ho (λ w a hl=>FA ⟨(by decide:0<4),Rep.len (α:=Int) (OpdR.cells h0 hl)⟩ (FA ⟨(by decide:1<4),Rep.len (α:=Str) (OpdR.cells h1 hl)⟩ (FA ⟨(by decide:3<4),Rep.len (α:=List Str) (OpdR.cells h3 hl)⟩ FN))) (λ w a hl=>Dir.parts (x:=(⟨y0,y1,0,y3⟩:Dir)) (OpdR.cells h0 hl) (OpdR.cells h1 hl) ⟨Z,trivial⟩ (OpdR.cells h3 hl))
theorem kN210:fnB prog 210=true:=by kernel_rfl
theorem kF61_2:fldB prog 61 2 7=true:=by kernel_rfl
theorem Qp:∀ {M:Nat->Prop} {look:Nat->Option Dt} {o:Oper} {q0 q1 q2:Operand} {y0:Tree} {y1:Int} {y2:List Dir},o.op=.build 64 #[(0,q0),(1,q1),(2,q2)]->OpdR M look q0 (dt y0)->OpdR M look q1 (dt y1)->OpdR M look q2 (dt y2)->OpRel prog M look o (dt (⟨y0,y1,y2⟩:Disk)):=@λ _ _ _ q0 q1 q2 y0 y1 y2 ho h0 h1 h2=>zT (parts:=[(0,q0),(1,q1),(2,q2)]) (ns:=[1,1,1]) (zs:=qy) Z ho (λ w a hl=>FA ⟨(by decide:0<3),Rep.len (α:=Tree) (OpdR.cells h0 hl)⟩ (FA ⟨(by decide:1<3),Rep.len (α:=Int) (OpdR.cells h1 hl)⟩ (FA ⟨(by decide:2<3),Rep.len (α:=List Dir) (OpdR.cells h2 hl)⟩ FN))) (λ w a hl=>Disk.parts (x:=(⟨y0,y1,y2⟩:Disk)) (OpdR.cells h0 hl) (OpdR.cells h1 hl) (OpdR.cells h2 hl))
theorem kI25:sliB prog 25 3 1=true:=by kernel_rfl
theorem kD36_0:∀ {M:Nat->Prop} {look:Nat->Option Dt} {o:Oper} {q0:Operand} {y0:List File},o.op=.build 36 #[(0,q0)]->OpdR M look q0 (dt y0)->OpRel prog M look o (dt (⟨y0⟩:Tree)):=@λ _ _ _ q0 y0 ho h0=>zT (parts:=[(0,q0)]) (ns:=[1]) (zs:=W3) Z ho (λ w a hl=>FA ⟨(by decide:0<1),Rep.len (α:=List File) (OpdR.cells h0 hl)⟩ FN) (λ w a hl=>Tree.parts (x:=(⟨y0⟩:Tree)) (OpdR.cells h0 hl))
theorem kS54:slB prog 54 1=true:=by kernel_rfl
theorem kY54:zlB prog 54=true:=by kernel_rfl
theorem kN68:fnB prog 68=true:=by kernel_rfl
theorem kN67:fnB prog 67=true:=by kernel_rfl
theorem kN75:fnB prog 75=true:=by kernel_rfl
instance iF235_2RfA:FldO prog 235 2 2:=⟨kF235_2⟩
instance iF235_3RfA:FldO prog 235 3 3:=⟨kF235_3⟩
instance iF36_0RfA:FldO prog 36 0 0:=⟨jq⟩
instance iF59_4RfA:FldO prog 59 4 4:=⟨kF59_4⟩
instance iF59_5RfA:FldO prog 59 5 5:=⟨kF59_5⟩
instance iF64_1RfA:FldO prog 64 1 1:=⟨zam⟩
instance iF64_2RfA:FldO prog 64 2 2:=⟨Xs⟩
def wm(x0:List GAct)(s4:Int):Option (Int⊕(Unit⊕Bool)):=
if(cmpI .lss s4 (x0.length:Int))=true then((atI x0 s4).bind λ v9=>
Option.bind (α:=Bool) (if cmpI .eql v9.kind 0 then((ZO v9.file).bind λ v22=>
some v22)
else(if cmpI .eql v9.kind 1 then(some true)
else(if cmpI .eql v9.kind 2 then((jA v9.file.body).bind λ v32=>
some v32)
else(if cmpI .eql v9.kind 3 then((ya v9.name).bind λ v38=>
some v38)
else(some false))))) λ o17=>
if(!o17)=true then(some (.inr (.inr false)))
else((i64 (s4+(1:Int))).bind λ v48=>
some (.inl v48)))
else(some (.inr (.inl ())))
def Ze(x0:List GAct):Option Bool:=
Option.bind (α:=Unit⊕Bool) (zE (λ s4=>wm x0 s4) (0:Int)) (Sum.elim (λ _b2=>
some (cmpI .leq (x0.length:Int) 20)) some)
theorem J1{x0:List GAct}{r:Bool}(h:Ze x0=some r):Fn prog 106 [dt x0] (dt r):=by
 refine fq1 1 func106 λ M w0 _ j=>?_
 refine j.z1 (λ _ _ j=>za ?_)
 refine j.jbq 1 [0] (λ _=>[]) (λ _ _=>[]) h (λ o2 p2 k2=>?_) λ b2 q2 _ _ _ j h=>?_
 ·refine j.z1 λ _ _ j=>?_
  refine wql p2 (λ s4 a w=>∃ M1 Q,Sx (Frm.of w0) 38 M M1 [oneB Q] [(0,dt x0),(6,dt x0),(7,dt (x0.length:Int)),(8,dt s4)] [] a w) fx ?_
  rintro s4 z4 _ _ ⟨_,Q,j⟩ hs4 hx4
  have h:wm x0 s4=some z4:=hs4
  unfold wm at h
  refine j.zc h (λ _ _ j h=>?_) λ _ _ j h=>?_
  ·refine Ka ?_
   have⟨v9,p9,h⟩:=bs h
   refine j.zg 2 λ _ _ j=>?_
   refine j.alA 0 zrGAct [0,6,7,8,11] [] λ b13 _ _ _ j=>?_
   refine j.stA 4 0 FldS.id (tp Z) [0,6,7,8] [] (λ _ _ j=>Kb ?_)
   refine j.zo [(4,0)] (λ _ _ j=>za ?_)
   refine j.jmq 1 [0,6,7,8] (λ o17=>[(5,dt o17)]) (λ _ _=>[]) h (λ o17 p17=>?_) λ o17 q17 _ _ _ j h=>?_
   ·refine j.zo [(4,0)] λ _ _ j=>?_
    refine j.zd [(4,0)] p17 (λ _ _ j h=>?_) λ _ _ j h=>?_
    ·have⟨v22,p22,h⟩:=bs h
     refine j.z1 λ _ _ j=>?_
     cases h
     exact fz
    refine j.zd [(4,0)] h (λ _ _ j h=>?_) λ _ _ j h=>?_
    ·refine j.z1 λ _ _ j=>?_
     cases h
     exact fz
    refine j.zd [(4,0)] h (λ _ _ j h=>?_) λ _ _ j h=>?_
    ·have⟨v32,p32,h⟩:=bs h
     refine j.z1 λ _ _ j=>?_
     cases h
     exact fz
    refine j.zd [(4,0)] h (λ _ _ j h=>?_) λ _ _ j h=>?_
    ·have⟨v38,p38,h⟩:=bs h
     refine j.z1 λ _ _ j=>?_
     cases h
     exact fz
    cases h
    exact fz
   refine j.zc h (λ _ _ j h=>?_) λ _ _ j h=>?_
   ·exact j.ze (jo (lo h hx4) k2)
   have⟨v48,p48,h⟩:=bs h
   exact j.zn [] h
  have h:=lo h hx4
  exact flz h
 exact j.ze h
instance:Ct1 prog 106 dt dt Ze:=⟨λ h=>J1 h⟩
def ZR(x0:List GAct)(x1:Int):Option Bool:=
(Ze x0).bind λ v2=>
(gO (v2 == true) (yb x1 (0:Int) (4:Int))).bind λ v3=>
some (v2&&v3)
theorem za0{x0:List GAct}{r:Bool}(h:ZR x0 x1=some r):Fn prog 66 [dt x0,dt x1] (dt r):=by
 refine fq1 0 func66 λ M _ _ j=>?_
 refine j.z1 λ _ _ j=>?_
 have⟨v2,p2,v3,p3,h⟩:=Kg h
 exact j.ze h (hs:=sZ 1 (r:=by exact sc Z (oK (J1 p2))<|sZ 2 (r:=by exact sg Z Z (λ hg=>oK (yP (gh hg p3)))<|segZ)))
instance:Ct2 prog 66 dt dt dt ZR:=⟨λ h=>za0 h⟩
def zV(x0:List Dir)(x1:(Dir->Option Bool))(s4:Int):Option (Int⊕(Unit⊕Int)):=
if(cmpI .lss s4 (x0.length:Int))=true then((atI x0 s4).bind λ v10=>
(x1 v10).bind λ v11=>
if v11=true then(some (.inr (.inr s4)))
else((i64 (s4+(1:Int))).bind λ v20=>
some (.inl v20)))
else(some (.inr (.inl ())))
def xx(x0:List Dir)(x1:(Dir->Option Bool)):Option Int:=
Option.bind (α:=Unit⊕Int) (zE (λ s4=>zV x0 x1 s4) (0:Int)) (Sum.elim (λ _b2=>
some (-1:Int)) some)
theorem YD{x0:List Dir}{x1:(Dir->Option Bool)}{r:Int}(h:xx x0 x1=some r):Fn prog 228 [dt x0,dfn1 prog x1] (dt r):=by
 refine fq1 0 func228 λ M w0 _ j=>?_
 refine j.z1 (λ _ _ j=>za ?_)
 refine j.jb [] (λ _=>[]) h (λ o2 p2 k2=>?_) λ b2 _ _ j h=>?_
 ·refine j.z1 λ _ _ j=>?_
  refine wql p2 (λ s4 a w=>Sx (Frm.of w0) 19 M M [] [(0,dt x0),(7,dt (x0.length:Int)),(8,dt s4),(1,dfn1 prog x1)] [] a w) (j.sel0 [0,7,8,1]) ?_
  rintro s4 z4 _ _ j hs4 hx4
  have h:zV x0 x1 s4=some z4:=hs4
  unfold zV at h
  refine j.zc h (λ _ _ j h=>?_) λ _ _ j h=>?_
  ·refine j.z1 λ _ _ j=>?_
   have⟨v10,p10,v11,p11,h⟩:=Kg h
   refine j.zc h (λ _ _ j h=>?_) (λ _ _ j h=>?_) (hs:=sZ 5 (r:=by exact sc Z (xCaF1 Z (tp Z) (tp Z) p11)<|.nil))
   ·exact j.ze (jo (lo h hx4) k2)
   have⟨v20,p20,h⟩:=bs h
   exact j.zn [] h
  have h:=lo h hx4
  exact flz h
 exact j.ze h
def Yd(x0:Dir)(x1:Int)(x2:Str):Option Bool:=
some (cmpI .eql x0.root x1&&decide (x0.pkg=x2))
theorem zan{x0:Dir}{x2:Str}{r:Bool}(h:Yd x0 x1 x2=some r):Fn prog 229 [dt x0,dptr x1,dptr x2] (dt r):=by
 refine fq1 0 func229 λ M _ _ j=>?_
 refine j.z1 λ _ _ j=>?_
 exact j.ze h
instance:Ct3 prog 229 dt dptr dptr dt Yd:=⟨λ h=>zan h⟩
def Yt(x0:List Dir)(x1:Int)(x2:Str):Option Int:=
(xx x0 (λ a0=>Yd a0 x1 x2)).bind λ v2=>
some v2
theorem Qq{x0:List Dir}{x2:Str}{r:Int}(h:Yt x0 x1 x2=some r):Fn prog 209 [dt x0,dt x1,dt x2] (dt r):=by
 refine fq1 0 func209 λ M _ a0 j=>?_
 refine j.z1 λ _ _ j=>?_
 have⟨v2,p2,h⟩:=bs h
 exact j.ze h (hs:=sZ 1 (r:=by exact sc Z (xMkF1 (l:=[.tmp 4,.tmp 5]) (g:=(λ a0=>Yd a0 x1 x2)) Z kN229 (.cons (tp Z) (.cons (tp Z) .nil)) Z (λ _ _ h=>zan h))<|sc Z (oK (YD p2))<|segZ))
instance:Ct3 prog 209 dt dt dt dt Yt:=⟨λ h=>Qq h⟩
def jE(x0:List Dir)(x1:Int)(x2:Int)(s4:Int):Option (Int⊕(Unit⊕Bool)):=
if(cmpI .lss s4 (x0.length:Int))=true then((atI x0 s4).bind λ v9=>
(yb v9.root (0:Int) (2:Int)).bind λ v17=>
(gO ((!v17) == false) (y8 v9.pkg)).bind λ v18=>
(gO (((!v17)||(!v18)) == false) (yb v9.stamp (0:Int) x1)).bind λ v19=>
(gO (((((!v17)||(!v18))||(!v19))||cmpI .gtr (v9.names.length:Int) x2) == false) (XF x0 s4)).bind λ v20=>
(gO (((((!v17)||(!v18))||(!v19))||cmpI .gtr (v9.names.length:Int) x2) == false) (Yt v20 v9.root v9.pkg)).bind λ v21=>
if(((((!v17)||(!v18))||(!v19))||cmpI .gtr (v9.names.length:Int) x2)||cmpI .geq v21 0)=true then(some (.inr (.inr false)))
else((i64 (s4+(1:Int))).bind λ v33=>
some (.inl v33)))
else(some (.inr (.inl ())))
def YM(x0:List Dir)(x1:Int)(x2:Int):Option Bool:=
Option.bind (α:=Unit⊕Bool) (zE (λ s4=>jE x0 x1 x2 s4) (0:Int)) (Sum.elim (λ _b2=>
some (cmpI .leq (x0.length:Int) 20)) some)
theorem za1{x0:List Dir}{r:Bool}(h:YM x0 x1 x2=some r):Fn prog 185 [dt x0,dt x1,dt x2] (dt r):=by
 refine fq1 1 func185 λ M w0 _ j=>?_
 refine j.z1 (λ _ _ j=>za ?_)
 refine j.jbq 1 [0] (λ _=>[]) (λ _ _=>[]) h (λ o2 p2 k2=>?_) λ b2 q2 _ _ _ j h=>?_
 ·refine j.z1 λ _ _ j=>?_
  refine wql p2 (λ s4 a w=>∃ M1 Q,Sx (Frm.of w0) 55 M M1 [oneB Q] [(0,dt x0),(1,dt x1),(2,dt x2),(9,dt x0),(10,dt (x0.length:Int)),(11,dt s4)] [] a w) fx ?_
  rintro s4 z4 _ _ ⟨_,Q,j⟩ hs4 hx4
  have h:jE x0 x1 x2 s4=some z4:=hs4
  unfold jE at h
  refine j.zc h (λ _ _ j h=>?_) λ _ _ j h=>?_
  ·refine Ka ?_
   have⟨v9,p9,h⟩:=bs h
   refine j.zg 3 λ _ _ j=>?_
   refine j.alA 0 zrDir [0,1,2,9,10,11,13,15] [] λ b13 _ _ _ j=>?_
   refine j.zh 1 [(8,0)] λ _ _ j=>?_
   refine j.stA 8 0 FldS.id (tp Z) [0,1,2,7,9,10,11] [] (λ _ _ j=>Kb ?_)
   have⟨v17,p17,v18,p18,h⟩:=Kg h
   have⟨v19,p19,v20,p20,h⟩:=Kg h
   have⟨v21,p21,h⟩:=bs h
   refine j.zw (λ _ _ j=>?_) (hs:=sV 2 (r:=by exact sw Z (zF (l:=[.tmp 17,.const (.int .i64 0),.const (.int .i64 2)]) Z (.cons (tp Z) (.cons cI (.cons cI .nil))) (yP p17))<|sV 4 (r:=by exact swg Z Z (λ hg=>zF (l:=[.tmp 22]) Z (.cons (zk hg Z) .nil) (wJ (gh hg p18)))<|sV 1 (r:=by exact sw Z (jX Z (tp Z) (zb Z))<|sV 4 (r:=by exact swg Z Z (λ hg=>zF (l:=[.tmp 28,.const (.int .i64 0),.tmp 29]) Z (.cons (zk hg Z) (.cons cI (.cons (zk hg Z) .nil))) (yP (gh hg p19)))<|sV 1 (r:=by exact sw Z (jX Z (tp Z) (zb Z))<|sV 5 (r:=by exact swg Z Z (λ hg=>oCI Z (zk hg Z) (zk hg Z))<|sw Z (jX Z (tp Z) (zb Z))<|sV 3 (r:=by exact swg Z Z (λ hg=>xSliH Z (zk hg Z) (zk hg Z) (gh hg p20))<|sV 4 (r:=by exact swg Z Z (λ hg=>zF (l:=[.tmp 43,.tmp 45,.tmp 47]) Z (.cons (zk hg Z) (.cons (zk hg Z) (.cons (zk hg Z) .nil))) (Qq (gh hg p21)))<|swg Z Z (λ hg=>oCI Z (zk hg Z) cI)<|sw Z (jX Z (tp Z) (zb Z))<|.nil)))))))))
   refine j.cq h (λ h=>?_) λ h=>?_
   ·exact j.ze (jo (lo h hx4) k2)
   have⟨v33,p33,h⟩:=bs h
   exact j.zn [] h
  have h:=lo h hx4
  exact flz h
 exact j.ze h
instance:Ct3 prog 185 dt dt dt dt YM:=⟨λ h=>za1 h⟩
def xY(x0:Disk):Option Bool:=
(y9 x0.tree).bind λ v2=>
(gO (v2 == true) (yb x0.clock (0:Int) (200:Int))).bind λ v3=>
(gO ((v2&&v3) == true) (YM x0.dirs x0.clock (0:Int))).bind λ v4=>
some ((v2&&v3)&&v4)
theorem XQ{r:Bool}(h:xY x0=some r):Fn prog 147 [dt x0] (dt r):=by
 refine fq1 0 func147 λ M _ _ j=>?_
 refine j.z1 λ _ _ j=>?_
 have⟨v2,p2,v3,p3,h⟩:=Kg h
 have⟨v4,p4,h⟩:=bs h
 exact j.ze h (hs:=sZ 2 (r:=by exact sc Z (oK (wK p2))<|sZ 3 (r:=by exact sg Z Z (λ hg=>oK (yP (gh hg p3)))<|sZ 6 (r:=by exact sg Z Z (λ hg=>oK (za1 (gh hg p4)))<|segZ))))
instance:Ct1 prog 147 dt dt xY:=⟨λ h=>XQ h⟩
def jF(x0:List Stmt):Option (List Stmt):=
(appO 56 [] x0).bind λ v5=>
some v5
theorem J2{x0:List Stmt}{r:List Stmt}(h:jF x0=some r):FnOwn prog 184 [dt x0] 177 r:=by
 refine fqO 1 func184 λ M _ _ j=>?_
 refine j.z1 (λ _ _ j=>?_) (hs:=sc Z (oA Z (Z1 (α:=Stmt) (e:=177)))<|.nil)
 refine Ka ?_
 refine j.zh 2 [(3,0)] (λ _ _ j=>?_) (hs:=sc Z (xn (α:=Stmt) (e:=177) Z)<|segZ)
 have⟨v5,p5,h⟩:=bs h
 refine j.apA 0 yV p5 [] [] λ g4 _ _ _ j=>?_
 refine j.zh 1 [(2,0)] (λ _ _ j=>Kb ?_)
 exact j.ret_own 0 Z Z iI h
def jG(x0:File):Option File:=
(jF x0.body).bind λ v4=>
some ({ x0 with body:=v4 })
theorem XR{x0:File}{r:File}(h:jG x0=some r):Fn prog 207 [dt x0] (dt r):=by
 refine fq1 2 func207 λ M _ _ j=>?_
 refine Ka ?_
 refine j.boxD 0 Z Z (tp Z) [] Z [] Z Z λ b1 _ _ _ j=>?_
 refine j.alA 1 JD [] [1] (λ b3 _ _ _ j=>Kb (Ka ?_))
 have⟨v4,p4,h⟩:=bs h
 refine j.zh 4 [(1,0),(2,1),(6,0)] (λ _ _ j=>?_) (hs:=sZ 2 (r:=by exact sc Z (zF (l:=[.tmp 4]) Z (.cons (tp Z) .nil) ((J2 p4)).fn)<|segZ))
 refine j.stA 1 0 File.set5 (tp Z) [] [2] (λ _ _ j=>Kb (Ka ?_))
 refine j.zh 1 [(2,1)] λ _ _ j=>?_
 refine j.stA 2 1 FldS.id (tp Z) [] [] (λ _ _ j=>Kb ?_)
 exact j.yB h
instance:Ct1 prog 207 dt dt jG:=⟨λ h=>XR h⟩
def wn(x0:Tree)(s17:Tree×Int):Option ((Tree×Int)⊕Tree):=
if(cmpI .lss s17.2 (x0.files.length:Int))=true then((atI x0.files s17.2).bind λ v22=>
(jG v22).bind λ v32=>
(appO 80 s17.1.files ([v32]:List File)).bind λ v41=>
(i64 (s17.2+(1:Int))).bind λ v49=>
some (.inl ((⟨v41⟩:Tree),v49)))
else(some (.inr s17.1))
def jH(x0:Tree):Option Tree:=
Option.bind (α:=Tree) (zE (λ s17=>wn x0 s17) ((⟨[]⟩:Tree),(0:Int))) λ o13=>
some o13
theorem XS{x0:Tree}{r:Tree}(h:jH x0=some r):FnN prog 183 [dt x0] (.ow (owTree (Ow.row 59 (Ow.frz (α:=File)))) r):=by
 refine fnN (fn:=f183) 6 func183 Z Z (λ M w0 _ j=>wqw (Ka ?_))
 refine j.zg 1 λ _ _ j=>?_
 refine j.alcW (ow:=(owTree (Ow.row 59 (Ow.frz (α:=File))))) 3 (owTree.z Ow.row_z) [1] [] λ b2 _ _ _ j=>?_
 have j:=j.gn
 refine Kb (Ka ?_)
 refine j.zh 1 [(2,3),(6,0)] (λ _ _ j=>?_) (hs:=sc Z (xn (α:=File) (e:=59) Z)<|.nil)
 have j:=j.tipW (s:=6) 0 (hG:=iE) [2]
 refine j.bldW (ow:=(owTree (Ow.row 59 (Ow.frz (α:=File))))) (parts:=[(0,.tmp 6)]) (ns:=[1]) (zs:=W3) (x:=(⟨[]⟩:Tree)) 1 [0] (FA ⟨by decide,Ow.len _ (yx (j.st.has 6 _ Z))⟩ FN) (((owTree (Ow.row 59 (Ow.frz (α:=File))))).more (owTree.mk (x:=(⟨[]⟩:Tree)) (yx (j.st.has 6 _ Z))) (λ b=>(λ hb=>⟨0,by simp,hb⟩))) [1] [2] (λ G5 _ _ j=>?_)
 have j:=j.gs (Gs':=[oneB none,G5,oneB none,(oneB (some b2)),oneB none,oneB none])
 have j:=j.gs (Gs':=[oneB none,G5,oneB none,(oneB (some b2)),oneB none,oneB none])
 refine j.alcW (ow:=(owTree (Ow.row 59 (Ow.frz (α:=File))))) 4 (owTree.z Ow.row_z) [1] [2,7] λ b9 _ _ _ j=>?_
 have j:=j.gn
 refine j.stO (sb:=3) (tv:=7) 4 1 (PV.root.box Z) (zD Z) [1] [2] λ _ _ j=>?_
 have j:=j.gn
 refine Kb (za ?_)
 have⟨o13,p13,k13⟩:=bs h
 refine wqj (λ a w=>∃ M1 Q R T U V W,Sx (Frm.of w0) 24 M M1 [Q,R,T,U,V,oneB W] [] [(2,3,dow (Ow.box (owTree (Ow.row 59 (Ow.frz (α:=File))))) U ⟨wz⟩),(3,4,dow (Ow.box (owTree (Ow.row 59 (Ow.frz (α:=File))))) V ⟨o13⟩)] a w) ?_ ?_
 ·refine j.zo [(2,3),(3,4)] λ _ _ j=>?_
  have j:=j.unm (s:=2) 3 [3]
  have j:=j.unm (s:=3) 4 [2]
  refine wql p13 (λ s17 a w=>∃ M1 Q R T U V W,Sx (Frm.of w0) 24 M M1 [Q,R,T,U,V,oneB W] [(9,dt x0.files),(10,dt (x0.files.length:Int)),(11,dt s17.2)] [(2,3,dow (Ow.box (owTree (Ow.row 59 (Ow.frz (α:=File))))) U ⟨wz⟩),(3,4,dow (Ow.box (owTree (Ow.row 59 (Ow.frz (α:=File))))) V ⟨s17.1⟩)] a w) fx ?_
  rintro s17 z17 _ _ ⟨_,Q,R,T,U,V,W,j⟩ hs17 hx17
  have h:wn x0 s17=some z17:=hs17
  unfold wn at h
  refine j.zd [(2,3),(3,4)] h (λ _ _ j h=>?_) λ _ _ j h=>?_
  ·refine Ka ?_
   have⟨v22,p22,h⟩:=bs h
   refine j.zh 2 [(2,3),(3,4)] λ _ _ j=>?_
   refine j.alA 5 JD [9,10,11,14] [2,3] λ b26 _ _ _ j=>?_
   have j:=j.gn
   refine j.stA 5 5 FldS.id (tp Z) [9,10,11] [2,3] (λ _ _ j=>Kb ?_)
   have⟨v32,p32,h⟩:=bs h
   refine j.nmB (s:=3) 4 [2,5] λ b30 j=>?_
   refine j.hdA 3 4 ((PV.root.box Z).fld owTree.f0) [2,5] λ g31 A31 _ hA31 j=>?_
   refine j.drnA (D:=[_,_,_,_,_]) zL 5 [[(3,nS)],[(15,0),(3,nS)],[(5,nS)],[(17,2)],[(18,3)],[(16,1),(19,4)],[(3,nS)],[(21,6),(20,5)]] [9,10,11,16,19] [(2,3),(3,4)] (λ _ _ j=>?_) (hs:=rc Z Z (xFa Z jq (zD Z))<|rc Z Z (xLc (sb:=3) (.head _) Z Z Z (tp Z) Z)<|rc Z Z (wH Z (tp Z))<|rc Z Z (zF (l:=[.tmp 17]) Z (.cons (tp Z) .nil) (XR p32))<|rc Z Z (xt (opds:=[.tmp 18]) Z Z Z (.cons (tp Z) .nil))<|.nil)
   refine j.mvG (s:=16) (sb:=3) 4 2 ((PV.root.box Z).fld owTree.f0) (.head _) (yh Z Z) [9,10,11,19] [2] λ _ H36 j=>?_
   have j:=j.gn
   refine j.tipR (s:=16) 2 (by first | (simp;done) | exact oD rfl) [2,3] λ g38 j=>?_
   have⟨v41,p41,h⟩:=bs h
   refine j.apA 2 yV p41 [9,10,11] [2,3] λ g40 _ _ _ j=>?_
   have j:=j.gn
   refine j.zh 1 [(2,3),(3,4),(20,2)] (λ _ _ j=>?_) (hs:=sc Z (xFa Z jq (zae Z))<|.nil)
   have j:=j.tipW (s:=20) 2 [2,3]
   refine j.shA 3 20 4 2 (tp Z) [9,10,11] [2] λ _ _ j=>?_
   have j:=j.gn
   refine Kb ?_
   have⟨v49,p49,h⟩:=bs h
   refine j.zo [(2,3),(3,4)] λ _ _ j=>?_
   have j:=j.unm (s:=3) 4 [2]
   exact flz h
  have h:=lo h hx17
  cases h
  exact fz
 rintro _ _ ⟨_,Q,R,T,U,V,W,j⟩
 have h:=k13
 refine Ka ?_
 refine j.nmB (s:=3) 4 [2] λ b56 j=>?_
 refine j.ldW (sb:=3) 4 [] [2] λ _ _ j=>?_
 refine j.nmB (s:=2) 3 [23] λ b58 j=>?_
 refine j.stO (sb:=2) (tv:=23) 3 4 (PV.root.box Z) (zD Z) [] [] λ _ _ j=>?_
 have j:=j.gn
 refine Kb ?_
 exact j.rnC 3 iI h
def Ye(x0:Tree)(x1:File):Option (Tree×Bool):=
(jH x0).bind λ v8=>
(jG x1).bind λ v16=>
(appO 80 v8.files ([v16]:List File)).bind λ v25=>
(y9 x0).bind λ v35=>
(gO ((!v35) == false) (y9 (⟨v25⟩:Tree))).bind λ v36=>
if((!v35)||(!v36))=true then(some ((⟨[]⟩:Tree),false))
else(some ((⟨v25⟩:Tree),true))
theorem zdH{x0:Tree}{x1:File}{r:Tree×Bool}(h:Ye x0 x1=some r):Fn prog 180 [dt x0,dt x1] (dtup [dt r.1,dt r.2]):=by
 refine fq1 4 func180 λ M _ _ j=>?_
 refine Ka ?_
 refine j.zg 2 λ _ _ j=>?_
 refine j.alA 2 xh [2,3] [] λ b3 _ _ _ j=>?_
 have j:=j.gn
 refine j.zh 1 [(4,2)] (λ _ _ j=>Kb (Ka ?_))
 refine j.zh 1 [(4,2)] λ _ _ j=>?_
 have⟨v8,p8,h⟩:=bs h
 refine j.cN (l:=[.tmp 7]) 0 (.cons (tp Z) .nil) (XS p8) [2,3] [4] λ _ _ _ _ j=>?_
 have j:=j.gn
 refine j.alcW (ow:=(owTree (Ow.row 59 (Ow.frz (α:=File))))) 3 (owTree.z Ow.row_z) [2,3] [4,8] λ b11 _ _ _ j=>?_
 have j:=j.gn
 refine j.stO (sb:=6) (tv:=8) 3 0 (PV.root.box Z) (zD Z) [2,3] [4] λ _ _ j=>?_
 have j:=j.gn
 refine Kb ?_
 have⟨v16,p16,h⟩:=bs h
 refine j.hdA 6 3 ((PV.root.box Z).fld owTree.f0) [4] λ g15 A15 _ hA15 j=>?_
 refine j.drnA (D:=[_,_,_,_,_]) zL 5 [[(6,nS)],[(9,0),(6,nS)],[(3,nS)],[(11,2)],[(12,3)],[(10,1),(13,4)],[(6,nS)],[(15,6),(14,5)]] [2,10,13] [(4,2),(6,3)] (λ _ _ j=>?_) (hs:=rc Z Z (xFa Z jq (zD Z))<|rc Z Z (xLc (sb:=6) (.head _) Z Z Z (tp Z) Z)<|rc Z Z (zr Z (tp Z))<|rc Z Z (zF (l:=[.tmp 11]) Z (.cons (tp Z) .nil) (XR p16))<|rc Z Z (xt (opds:=[.tmp 12]) Z Z Z (.cons (tp Z) .nil))<|.nil)
 refine j.mvG (s:=10) (sb:=6) 3 1 ((PV.root.box Z).fld owTree.f0) (.head _) (yh Z Z) [2,13] [4] λ _ H20 j=>?_
 have j:=j.gn
 refine j.tipR (s:=10) 1 (by first | (simp;done) | exact oD rfl) [4,6] λ g22 j=>?_
 have⟨v25,p25,h⟩:=bs h
 refine j.apA 1 yV p25 [2] [4,6] λ g24 _ _ _ j=>?_
 have j:=j.gn
 refine j.zh 1 [(4,2),(6,3),(14,1)] (λ _ _ j=>?_) (hs:=sc Z (xFa Z jq (zae Z))<|.nil)
 have j:=j.tipW (s:=14) 1 [4,6]
 refine j.shA 6 14 3 1 (tp Z) [2] [4] λ _ _ j=>?_
 have j:=j.gn
 refine Kb ?_
 have j:=j.unm (s:=6) 3 [4]
 have j:=j.frzB (s:=6) 3 [2] [4]
 have⟨v35,p35,v36,p36,h⟩:=Kg h
 refine j.zd [(4,2)] h (λ _ _ j h=>?_) (λ _ _ j h=>?_) (hs:=sZ 1 (r:=by exact sc Z (oK (wK p35))<|sZ 3 (r:=by exact sg Z Z (λ hg=>oK (wK (gh hg p36)))<|segZ)))
 ·refine Ka ?_
  refine j.zh 1 [(4,2)] (λ _ _ j=>?_) (hs:=sc Z (zT (parts:=[]) (ns:=[1]) (zs:=W3) Z Z (λ w a hl=>by simp) (λ w a hl=>Tree.parts (x:=(⟨[]⟩:Tree)) yj))<|.nil)
  refine j.stA 4 2 FldS.id (tp Z) [] [] λ _ _ j=>?_
  refine j.zh 1 [(4,2)] (λ _ _ j=>Kb ?_)
  obtain rfl:=Option.some.inj h
  exact j.y2
 refine Ka ?_
 refine j.zh 1 [(4,2)] λ _ _ j=>?_
 refine j.stA 4 2 FldS.id (tp Z) [] [] λ _ _ j=>?_
 refine j.zh 1 [(4,2)] (λ _ _ j=>Kb ?_)
 obtain rfl:=Option.some.inj h
 exact j.y2
instance:Ct2 prog 180 dt dt (λ r=>dtup [dt r.1,dt r.2]) Ye:=⟨λ h=>zdH h⟩
def wo(x0:List Dir)(s6:(List Dir)×Int):Option (((List Dir)×Int)⊕(List Dir)):=
if(cmpI .lss s6.2 (x0.length:Int))=true then((atI x0 s6.2).bind λ v11=>
(appO 16 [] v11.names).bind λ v21=>
(appO 56 s6.1 [{ v11 with names:=v21 }]).bind λ v35=>
(i64 (s6.2+(1:Int))).bind λ v40=>
some (.inl (v35,v40)))
else(some (.inr s6.1))
def Zf(x0:List Dir):Option (List Dir):=
Option.bind (α:=(List Dir)) (zE (λ s6=>wo x0 s6) ([],(0:Int))) λ o3=>
some o3
theorem XT{x0:List Dir}{r:List Dir}(h:Zf x0=some r):FnN prog 146 [dt x0] (.ow (Ow.row 235 (owDir (Ow.row 9 (Ow.frz (α:=Str))))) r):=by
 refine fnN (fn:=f146) 5 func146 Z Z (λ M w0 _ j=>wqw ?_)
 refine j.rg2 (sc Z (oA Z (jl (α:=Dir)))<|.nil) [0] λ _ _ j=>?_
 refine j.rgB (sc Z (xn (α:=Dir) (e:=235) Z)<|segZ) [0] [(3,0)] (λ _ _ j=>za ?_)
 have⟨o3,p3,k3⟩:=bs h
 refine wqj (λ a w=>∃ M1 Q R T U V,Sx (Frm.of w0) 24 M M1 [Q,R,T,U,V] [] [(3,0,dow (Ow.row 235 (owDir (Ow.row 9 (Ow.frz (α:=Str))))) Q o3)] a w) ?_ ?_
 ·have j:=j.tip0 (s:=3) (e':=235) (oy:=(owDir (Ow.row 9 (Ow.frz (α:=Str))))) 0 []
  refine j.rgA [7,8,9] [(3,0)] λ _ _ j=>?_
  refine wql p3 (λ s6 a w=>∃ M1 Q R T U V,Sx (Frm.of w0) 24 M M1 [Q,R,T,U,V] [(7,dt x0),(8,dt (x0.length:Int)),(9,dt s6.2)] [(3,0,dow (Ow.row 235 (owDir (Ow.row 9 (Ow.frz (α:=Str))))) Q s6.1)] a w) fx ?_
  rintro s6 z6 _ _ ⟨_,Q,R,T,U,V,j⟩ hs6 hx6
  have h:wo x0 s6=some z6:=hs6
  unfold wo at h
  refine j.rgA [7,8,9,10] [(3,0)] λ _ _ j=>?_
  refine j.cq h (λ h=>?_) λ h=>?_
  ·refine Ka ?_
   have⟨v11,p11,h⟩:=bs h
   refine j.segA 2 [7,8,9,12] [(3,0)] λ _ _ j=>?_
   refine j.alcW (ow:=(owDir (Ow.row 9 (Ow.frz (α:=Str))))) 4 (owDir.z Ow.row_z) [7,8,9,12] [3] λ b14 _ _ _ j=>?_
   have j:=j.gn
   refine j.stFz (ow2:=(owDir (Ow.frz (α:=List Str)))) (sb:=5) 4 owDir.ofR Z Z Z kT235 Z (tp Z) iI [7,8,9] Z [3] Z Z (λ _ j=>Kb ?_)
   have j:=j.rst 1 [7,8,9] [3,5]
   refine Ka ?_
   refine j.segB 3 (sc Z (xn (α:=Str) (e:=9) Z (ht':=Jr))<|sc Z (xFa Z kF235_3 (zD Z))<|sc Z (xLf (sb:=5) ((PV.root.box Z).fld owDir.f3) Z (tp Z) Z)<|.nil) [7,8,9,15] [(3,0),(5,4),(13,1)] λ _ _ j=>?_
   have⟨v21,p21,h⟩:=bs h
   refine j.apA 1 yV p21 [7,8,9] [3,5] λ g20 _ _ _ j=>?_
   have j:=j.gn
   refine j.segB 1 (sc Z (xFa Z kF235_3 (zD Z))<|.nil) [7,8,9,17] [(3,0),(5,4),(16,1)] λ _ _ j=>?_
   have j:=j.tipW (s:=16) 1 [3,5]
   refine j.stTk (off:=3) (ow2:=(owDir (Ow.row 9 (Ow.frz (α:=Str))))) (x2:={ v11 with names:=v21 }) (sb:=5) (tv:=16) 4 1 owDir.tk Z Z Z kT120 (tp Z) Z Z iI iI [7,8,9] Z [3] Z Z Z λ _ _ j=>?_
   have j:=j.gn
   refine Kb (Ka ?_)
   refine j.nmR (s:=3) 0 [5] λ g28 A28 _ hA28 j=>?_
   refine j.segA 1 [7,8,9] [(3,0),(5,4),(18,0)] λ _ _ j=>?_
   refine j.ldW (sb:=5) 4 [7,8,9] [3,18] λ _ _ j=>?_
   refine j.litW (oe:=(owDir (Ow.row 9 (Ow.frz (α:=Str))))) (opds:=[.tmp 19]) (xs:=[{ v11 with names:=v21 }]) 3 [4] kI62 kY62 (qf (yx (j.st.has 19 _ Z)) (λ b hb=>⟨4,by simp,hb⟩)) (λ q hq=>by
 simp only[List.mem_cons,List.not_mem_nil,or_false] at hq
 subst hq
 exact Ow.len _ (yx (j.st.has 19 _ Z))) [7,8,9] [3,18] (λ G31 _ _ _ j=>?_)
   have j:=j.gs (Gs':=[Q,oneB none,T,G31,oneB none])
   have j:=j.unm (s:=18) 0 [20]
   have⟨v35,p35,h⟩:=bs h
   refine j.appW 0 3 p35 [7,8,9] [] λ _ _ _ _ j=>?_
   have j:=j.gn
   refine j.nmR (s:=21) 0 [] λ g38 A38 _ hA38 j=>?_
   refine j.segA 1 [7,8,9] [(3,0)] (λ _ _ j=>Kb ?_)
   have⟨v40,p40,h⟩:=bs h
   refine j.rgA [7,8,9] [(3,0)] λ _ _ j=>?_
   have j:=j.unm (s:=3) 0 []
   exact flz h
  have h:=lo h hx6
  cases h
  exact fz
 rintro _ _ ⟨_,Q,R,T,U,V,j⟩
 have h:=k3
 refine j.nmR (s:=3) 0 [] λ g46 A46 _ hA46 j=>?_
 refine j.rgA [] [(2,0)] λ _ _ j=>?_
 have j:=j.unm (s:=2) 0 []
 exact j.rnO 0 h
def yQ(x2:File)(v77:List Str)(s83:Disk×Int):Option ((Disk×Int)⊕Disk):=
if(cmpI .lss s83.2 (v77.length:Int))=true then((atI v77 s83.2).bind λ v89=>
(Yt s83.1.dirs x2.root v89).bind λ v94=>
Option.bind (α:=Disk×Int) (if cmpI .lss v94 0 then((appO 56 s83.1.dirs ([(⟨x2.root,v89,0,([]:List Str)⟩:Dir)]:List Dir)).bind λ v113=>
some ({ s83.1 with dirs:=v113 },(s83.1.dirs.length:Int)))
else(some (s83.1,v94))) λ o98=>
(atI o98.1.dirs o98.2).bind λ v128=>
(i64 (s83.2+(1:Int))).bind λ v132=>
some (.inl ({ o98.1 with dirs:=(o98.1.dirs.set o98.2.toNat ({ v128 with stamp:=o98.1.clock })) },v132)))
else(some (.inr s83.1))
def Zg(x0:Disk)(x1:Tree)(x2:File)(x3:Int):Option (Disk×Bool):=
if cmpI .gtr x3 200 then(some ((⟨wz,0,[]⟩:Disk),false))
else((i64 (x0.clock+x3)).bind λ v18=>
(Zf x0.dirs).bind λ v24=>
Option.bind (α:=Disk) ((ja x2.pkg).bind λ v70=>
(appO 16 [(⟨[]⟩:Str)] v70).bind λ v77=>
zE (λ s83=>yQ x2 v77 s83) ((⟨x1,v18,v24⟩:Disk),(0:Int))) λ o67=>
(xY o67).bind λ v140=>
if(!v140)=true then(some ((⟨wz,0,[]⟩:Disk),false))
else(some (o67,true)))
theorem zdI{x1:Tree}{x2:File}{x3:Int}(h:Zg x0 x1 x2 x3=some r):Fn prog 181 [dt x0,dt x1,dt x2,dt x3] (dtup [dt r.1,dt r.2]):=by
 refine fq1 6 func181 λ M w0 _ j=>?_
 refine Ka ?_
 refine j.zg 3 λ _ _ j=>?_
 refine j.alA 4 xv [3,4,5,6] [] λ b3 _ _ _ j=>?_
 have j:=j.gn
 refine j.zh 1 [(8,4)] (λ _ _ j=>Kb ?_)
 refine j.zd [(8,4)] h (λ _ _ j h=>?_) λ _ _ j h=>?_
 ·refine Ka ?_
  refine j.zh 1 [(8,4)] (λ _ _ j=>?_) (hs:=sc Z (zT (parts:=[]) (ns:=[1,1,1]) (zs:=qy) Z Z (λ w a hl=>by simp) (λ w a hl=>Disk.parts (x:=(⟨wz,0,[]⟩:Disk)) (xh _ _) ⟨Z,trivial⟩ yj))<|.nil)
  refine j.stA 8 4 FldS.id (tp Z) [] [] λ _ _ j=>?_
  refine j.zh 1 [(8,4)] (λ _ _ j=>Kb ?_)
  obtain rfl:=Option.some.inj h
  exact j.y2
 refine j.heldF zL λ c13 _ hz13 j=>?_
 refine j.tkLp (i:=0) (j.fzS (g:=70)) hz13 (tp Z) λ _ j=>?_
 refine j.tkFp (i:=1) (j.fzS (g:=70)) Disk.fld1 zam (tp Z) (next:=λ a15 j=>?_)
 refine j.tkLp (i:=2) (j.fzS (g:=70)) hz13 (tp Z) λ _ j=>?_
 refine j.tM 3 3 (j.fzS (g:=70)) λ _ j=>?_
 have⟨v18,p18,h⟩:=bs h
 refine j.tkAr (i:=4) Z Z (j.fzS (g:=70)) Z (tp Z) (tp Z) p18 (next:=λ a19 j=>?_)
 refine j.tkFp (i:=5) (j.fzS (g:=70)) Disk.fld2 Xs (tp Z) (next:=λ a21 j=>?_)
 refine j.tkLp (i:=6) (j.fzS (g:=70)) hz13 (tp Z) λ _ j=>?_
 have⟨v24,p24,h⟩:=bs h
 refine wd 1 1023 (λ a w=>∃ M1 R V W,Sx (Frm.of w0) 70 M M1 [oneB none,R,oneB none,oneB none,oneB V,W] [(6,dptr x2),(70,dfz c13)] [(8,4,dbox V 0 yC),(10,5,dow (Ow.box (owDisk (Ow.frz (α:=Tree)) (Ow.row 235 (Ow.frz (α:=Dir))))) W ⟨yC⟩),(25,1,dow (owDisk (Ow.frz (α:=Tree)) (Ow.row 235 (Ow.frz (α:=Dir)))) R (⟨x1,v18,v24⟩:Disk))] a w) ?_ λ n55=>?_
 ·rintro _ _ ⟨_,R,V,W,j⟩
  refine aK1 10 ?_
  refine j.nmB (s:=10) 5 [8,25] λ b64 j=>?_
  refine j.stO (sb:=10) (tv:=25) 5 1 (PV.root.box Z) (zD Z) [6,70] [8] λ G63 _ j=>?_
  have j:=j.gn
  have j:=j.unm (s:=10) 5 [8]
  refine aHN (j.fzS (g:=70)) ?_
  refine aK0 (za ?_)
  have⟨o67,p67,k67⟩:=bs h
  refine wqj (λ a w=>∃ M1 Q R T U V W,Sx (Frm.of w0) 70 M M1 [Q,R,T,U,oneB V,W] [] [(8,4,dbox V 0 yC),(10,5,dow (Ow.box (owDisk (Ow.frz (α:=Tree)) (Ow.row 235 (Ow.frz (α:=Dir))))) W ⟨o67⟩)] a w) ?_ ?_
  ·refine Ka ?_
   refine j.litW (oe:=(Ow.frz (α:=Str))) (opds:=[_]) (xs:=[(⟨[]⟩:Str)]) 2 [] kI120 kY120 (qf (oe:=(Ow.frz (α:=Str))) (G1:=noB) (OpdR.cells (yz) (λ s y hs=>j.st.has s y hs)) (λ _ h=>h.elim)) (λ q hq=>by
 simp only[List.mem_cons,List.not_mem_nil,or_false] at hq
 subst hq
 exact Rep.len (OpdR.cells (yz) (λ s y hs=>j.st.has s y hs))) [6] [8,10] (λ G68 _ _ _ j=>?_)
   have j:=j.gs (Gs':=[oneB none,oneB none,G68,oneB none,oneB V,G63])
   have⟨v70,p70,h⟩:=bs p67
   refine j.zh 3 [(8,4),(10,5),(26,2)] (λ _ _ j=>?_) (hs:=sZ 2 (r:=by exact sc Z (zF (l:=[.tmp 28]) Z (.cons (tp Z) .nil) ((zb0 p70)).fn)<|.nil))
   refine j.tipR (s:=26) 2 (by first | (simp;done) | exact oD rfl) [8,10] λ g74 j=>?_
   have⟨v77,p77,h⟩:=bs h
   refine j.apA 2 yV p77 [6] [8,10] λ g76 _ _ _ j=>?_
   have j:=j.gn
   refine j.zh 2 [(8,4),(10,5),(30,2)] (λ _ _ j=>?_) (hs:=sc Z (op_lenT Z (tp Z))<|segZ)
   refine Kb ?_
   have j:=j.tipW (s:=30) 2 [8,10]
   refine wql h (λ s83 a w=>∃ M1 Q R T U V W,Sx (Frm.of w0) 70 M M1 [Q,R,T,U,oneB V,W] [(6,dptr x2),(31,dt (v77.length:Int)),(32,dt s83.2)] [(8,4,dbox V 0 yC),(10,5,dow (Ow.box (owDisk (Ow.frz (α:=Tree)) (Ow.row 235 (Ow.frz (α:=Dir))))) W ⟨s83.1⟩),(30,2,dow (Ow.row 9 (Ow.frz (α:=Str))) T v77)] a w) fx ?_
   rintro s83 z83 _ _ ⟨_,Q,R,T,U,V,W,j⟩ hs83 hx83
   have h:yQ x2 v77 s83=some z83:=hs83
   unfold yQ at h
   refine j.zd [(8,4),(10,5),(30,2)] h (λ _ _ j h=>?_) λ _ _ j h=>?_
   ·have⟨v89,p89,h⟩:=bs h
    refine j.nmR (s:=30) 2 [8,10] λ g88 A88 _ hA88 j=>?_
    refine j.zo [(8,4),(10,5),(30,2)] (λ _ _ j=>?_) (hs:=sc Z (xIaN Z Jr Z (tp Z) hA88 p89)<|sc Z (xLf (sb:=30) (PV.root.row Z hA88 p89) Z (tp Z) Z)<|segZ)
    have⟨v94,p94,h⟩:=bs h
    refine j.nmB (s:=10) 5 [8,30] λ b92 j=>?_
    refine j.hdA 10 5 ((PV.root.box Z).fld owDisk.f2) [8,30] λ g93 A93 _ hA93 j=>?_
    refine j.zo [(8,4),(10,5),(30,2)] (λ _ _ j=>?_) (hs:=sc Z (xFa Z Xs (zD Z))<|sc Z (xLc (sb:=10) (.head _) Z Z Z (tp Z) Z)<|sZ 3 (r:=by exact sc Z (yH (l:=[.tmp 37,.tmp 39,.tmp 40]) j.ob.sub Z (.cons (zaT (sb:=10) j.ob 5 ((PV.root.box Z).fld owDisk.f2) (.head _) Z (yh Z Z) (tp Z) Z iI) (.cons (xA j.ob.sub (tp Z)) (.cons (xA j.ob.sub (tp Z)) .nil))) (Qq p94) wE)<|segZ))
    refine za ?_
    have j:=j.ncf (s:=10) 5 [8,30]
    have⟨o98,p98,k98⟩:=bs h
    refine wqj (λ a w=>∃ M1 Q R T U V W,Sx (Frm.of w0) 70 M M1 [Q,R,T,U,oneB V,W] [(6,dptr x2),(13,dt o98.2),(31,dt (v77.length:Int)),(32,dt s83.2)] [(8,4,dbox V 0 yC),(10,5,dow (Ow.box (owDisk (Ow.frz (α:=Tree)) (Ow.row 235 (Ow.frz (α:=Dir))))) W ⟨o98.1⟩),(30,2,dow (Ow.row 9 (Ow.frz (α:=Str))) T v77)] a w) ?_ ?_
    ·refine j.zd [(8,4),(10,5),(30,2)] p98 (λ _ _ j h=>?_) λ _ _ j h=>?_
     ·refine j.hdA 10 5 ((PV.root.box Z).fld owDisk.f2) [8,30] λ g102 A102 _ hA102 j=>?_
      refine j.zo [(8,4),(10,5),(30,2)] (λ _ _ j=>?_) (hs:=sc Z (xFa Z Xs (zD Z))<|sc Z (xLc (sb:=10) (.head _) Z Z Z (tp Z) Z)<|sc Z (xLe Z (tp Z))<|segZ)
      have j:=j.ncf (s:=10) 5 [8,30]
      refine Ka ?_
      refine j.hdA 10 5 ((PV.root.box Z).fld owDisk.f2) [8,30] λ g105 A105 _ hA105 j=>?_
      refine j.zh 8 [(8,4),(10,5),(30,2)] (λ _ _ j=>?_) (hs:=sc Z (xFa Z Xs (zD Z))<|sc Z (xLc (sb:=10) (.head _) Z Z Z (tp Z) Z)<|sZ 3 (r:=by exact sc Z (xt (opds:=[]) (α:=Str) Z (ht':=Jr) Z Z .nil)<|sc Z (kD235_0_1_3 Z (tp Z) (tp Z) (tp Z))<|segZ))
      refine j.mvG (s:=48) (sb:=10) 5 3 ((PV.root.box Z).fld owDisk.f2) (.head _) (yh Z Z) [6,13,31,32,54] [8,30] λ G108 H108 j=>?_
      have j:=j.gs (Gs':=[Q,R,T,H108,oneB V,G108])
      refine j.tipR (s:=48) 3 (by first | (simp;done) | exact oD rfl) [8,10,30] λ g110 j=>?_
      have⟨v113,p113,h⟩:=bs h
      refine j.apA 3 yV p113 [6,13,31,32] [8,10,30] λ g112 _ _ _ j=>?_
      have j:=j.gn
      refine j.zh 1 [(8,4),(10,5),(30,2),(55,3)] (λ _ _ j=>?_) (hs:=sc Z (xFa Z Xs (zae Z))<|.nil)
      have j:=j.tipW (s:=55) 3 [8,10,30]
      refine j.shA 10 55 5 3 (tp Z) [6,13,31,32] [8,30] λ _ _ j=>?_
      have j:=j.gn
      refine Kb ?_
      have j:=j.unm (s:=10) 5 [8,30]
      have j:=j.unm (s:=30) 2 [8,10]
      cases h
      exact fz
     have j:=j.unm (s:=10) 5 [8,30]
     have j:=j.unm (s:=30) 2 [8,10]
     cases h
     exact fz
    rintro _ _ ⟨_,Q,R,T,U,V,W,j⟩
    have h:=k98
    refine Ka ?_
    have⟨v128,p128,h⟩:=bs h
    refine j.nmB (s:=10) 5 [8,30] λ b126 j=>?_
    refine j.hdA 10 5 ((PV.root.box Z).fld owDisk.f2) [8,30] λ g127 A127 _ hA127 j=>?_
    refine j.zh 7 [(8,4),(10,5),(30,2)] (λ _ _ j=>?_) (hs:=sc Z (xFa Z Xs (zD Z))<|sc Z (xLc (sb:=10) (.head _) Z Z Z (tp Z) Z)<|sZ 1 (r:=by exact sc Z (xFa Z zam (zD Z))<|sc Z (xLf (sb:=10) ((PV.root.box Z).fld owDisk.f1) Z (tp Z) Z)<|sc Z (xIa (g:=g127) Z kS62 (tp Z) (tp Z) Z (λ h=>hA127 h Z) p128)<|segZ))
    refine j.sfA 10 5 ((((PV.root.box Z).fld owDisk.f2).row (.head _) Z (λ h=>hA127 h Z) p128).fld Dir.z2) (tp Z) (tp Z) [6,31,32] [8,30] (λ _ j=>Kb ?_)
    have⟨v132,p132,h⟩:=bs h
    refine j.zo [(8,4),(10,5),(30,2)] λ _ _ j=>?_
    have j:=j.unm (s:=10) 5 [8,30]
    exact flz h
   have h:=lo h hx83
   cases h
   exact fz
  rintro _ _ ⟨_,Q,R,T,U,V,W,j⟩
  have h:=k67
  have⟨v140,p140,h⟩:=bs h
  refine j.nmB (s:=10) 5 [8] λ b138 j=>?_
  refine j.hdW (s:=10) 5 true (λ _=>(PV.root.box Z)) iI [8] λ cs139 hS139 j=>?_
  refine j.zo [(8,4),(10,5)] (λ _ _ j=>?_) (hs:=sc Z (xLw (sb:=10) (.head _) Z (hS139 Z) Z (zD Z) Z)<|sc Z (yH (l:=[.tmp 65]) j.ob.sub Z (.cons (zaT (sb:=10) j.ob 5 (PV.root.box Z) (.head _) Z (zbV Z (hS139 Z)) (tp Z) Z iI) .nil) (XQ p140) w8)<|segZ)
  have j:=j.ncf (s:=10) 5 [8]
  refine j.cq h (λ h=>?_) λ h=>?_
  ·refine Ka ?_
   refine j.zh 1 [(8,4)] (λ _ _ j=>?_) (hs:=sc Z (zT (parts:=[]) (ns:=[1,1,1]) (zs:=qy) Z Z (λ w a hl=>by simp) (λ w a hl=>Disk.parts (x:=(⟨wz,0,[]⟩:Disk)) (xh _ _) ⟨Z,trivial⟩ yj))<|.nil)
   refine j.stA 8 4 FldS.id (tp Z) [] [] λ _ _ j=>?_
   refine j.zh 1 [(8,4)] (λ _ _ j=>Kb ?_)
   obtain rfl:=Option.some.inj h
   exact j.y2
  have j:=j.unm (s:=10) 5 [8]
  have j:=j.frzB (s:=10) 5 [67] [8]
  refine Ka ?_
  refine j.zh 1 [(8,4)] λ _ _ j=>?_
  refine j.stA 8 4 FldS.id (tp Z) [] [] λ _ _ j=>?_
  refine j.zh 1 [(8,4)] (λ _ _ j=>Kb ?_)
  obtain rfl:=Option.some.inj h
  exact j.y2
 refine wd 2 511 (λ a w=>∃ M1 R V,Sx (Frm.of w0) 70 M M1 [oneB none,R,oneB none,oneB none,oneB V,oneB none] [(6,dptr x2),(70,dfz c13)] [(8,4,dbox V 0 yC),(25,1,dow (owDisk (Ow.frz (α:=Tree)) (Ow.row 235 (Ow.frz (α:=Dir)))) R (⟨x1,v18,v24⟩:Disk))] a w) ?_ λ n45=>?_
 ·rintro _ _ ⟨_,R,V,j⟩
  refine aK1 9 ?_
  refine j.alcW (ow:=(owDisk (Ow.frz (α:=Tree)) (Ow.row 235 (Ow.frz (α:=Dir))))) 5 (owDisk.z xh Ow.row_z) [6,70] [8,25] λ b156 _ _ _ j=>?_
  have j:=j.gn
  have j:=j.unm (s:=10) 5 [8,25]
  exact aHe n55 (j.fzS (g:=70))
 refine wd 2 767 (λ a w=>∃ M1 Q V W,Sx (Frm.of w0) 70 M M1 [Q,oneB none,oneB none,oneB none,oneB V,W] [(6,dptr x2),(17,dt x1),(21,dt v18),(70,dfz c13)] [(8,4,dbox V 0 yC),(10,5,dow (Ow.box (owDisk (Ow.frz (α:=Tree)) (Ow.row 235 (Ow.frz (α:=Dir))))) W ⟨yC⟩),(24,0,dow (Ow.row 235 (Ow.frz (α:=Dir))) Q v24)] a w) ?_ λ n49=>?_
 ·rintro _ _ ⟨_,Q,V,W,j⟩
  refine aK1 8 ?_
  refine j.bldW (ow:=(owDisk (Ow.frz (α:=Tree)) (Ow.row 235 (Ow.frz (α:=Dir))))) (parts:=[(0,.tmp 17),(1,.tmp 21),(2,.tmp 24)]) (ns:=[1,1,1]) (zs:=qy) (x:=(⟨x1,v18,v24⟩:Disk)) 1 [0] (FA ⟨by decide,Rep.len (α:=Tree) (OpdR.cells (tp Z) (λ s y hs=>j.st.has s y hs))⟩ (FA ⟨by decide,Rep.len (α:=Int) (OpdR.cells (tp Z) (λ s y hs=>j.st.has s y hs))⟩ (FA ⟨by decide,Ow.len _ (yx (j.st.has 24 _ Z))⟩ FN))) (((owDisk (Ow.frz (α:=Tree)) (Ow.row 235 (Ow.frz (α:=Dir))))).more (owDisk.mk (x:=(⟨x1,v18,v24⟩:Disk)) (g0:=noB) (OpdR.cells (tp Z) (λ s y hs=>j.st.has s y hs)) (OpdR.cells (tp Z) (λ s y hs=>j.st.has s y hs)) (yx (j.st.has 24 _ Z)) (λ b h1=>(λ h2=>h1.elim))) (λ b=>(λ hb=>hb.elim (λ hb=>hb.elim) (λ hb=>⟨0,by simp,hb⟩)))) [6,70] [8,10] (λ G159 _ _ j=>?_)
  have j:=j.gs (Gs':=[oneB none,G159,oneB none,oneB none,oneB V,W])
  have j:=j.gs (Gs':=[oneB none,G159,oneB none,oneB none,oneB V,W])
  exact aHe n55 (j.fzS (g:=70))
 refine wd 3 255 (λ a w=>∃ M1 Q V,Sx (Frm.of w0) 70 M M1 [Q,oneB none,oneB none,oneB none,oneB V,oneB none] [(6,dptr x2),(17,dt x1),(21,dt v18),(70,dfz c13)] [(8,4,dbox V 0 yC),(24,0,dow (Ow.row 235 (Ow.frz (α:=Dir))) Q v24)] a w) ?_ λ n37=>?_
 ·rintro _ _ ⟨_,Q,V,j⟩
  refine aK2 8 9 ?_ ?_
  ·refine j.bldW (ow:=(owDisk (Ow.frz (α:=Tree)) (Ow.row 235 (Ow.frz (α:=Dir))))) (parts:=[(0,.tmp 17),(1,.tmp 21),(2,.tmp 24)]) (ns:=[1,1,1]) (zs:=qy) (x:=(⟨x1,v18,v24⟩:Disk)) 1 [0] (FA ⟨by decide,Rep.len (α:=Tree) (OpdR.cells (tp Z) (λ s y hs=>j.st.has s y hs))⟩ (FA ⟨by decide,Rep.len (α:=Int) (OpdR.cells (tp Z) (λ s y hs=>j.st.has s y hs))⟩ (FA ⟨by decide,Ow.len _ (yx (j.st.has 24 _ Z))⟩ FN))) (((owDisk (Ow.frz (α:=Tree)) (Ow.row 235 (Ow.frz (α:=Dir))))).more (owDisk.mk (x:=(⟨x1,v18,v24⟩:Disk)) (g0:=noB) (OpdR.cells (tp Z) (λ s y hs=>j.st.has s y hs)) (OpdR.cells (tp Z) (λ s y hs=>j.st.has s y hs)) (yx (j.st.has 24 _ Z)) (λ b h1=>(λ h2=>h1.elim))) (λ b=>(λ hb=>hb.elim (λ hb=>hb.elim) (λ hb=>⟨0,by simp,hb⟩)))) [6,70] [8] (λ G162 _ _ j=>?_)
   have j:=j.gs (Gs':=[oneB none,G162,oneB none,oneB none,oneB V,oneB none])
   have j:=j.gs (Gs':=[oneB none,G162,oneB none,oneB none,oneB V,oneB none])
   exact aHe n45 (j.fzS (g:=70))
  ·refine j.alcW (ow:=(owDisk (Ow.frz (α:=Tree)) (Ow.row 235 (Ow.frz (α:=Dir))))) 5 (owDisk.z xh Ow.row_z) [6,17,21,70] [8,24] λ b165 _ _ _ j=>?_
   have j:=j.gn
   have j:=j.unm (s:=10) 5 [8,24]
   exact aHe n49 (j.fzS (g:=70))
 refine wd 3 639 (λ a w=>∃ M1 V W,Sx (Frm.of w0) 70 M M1 [oneB none,oneB none,oneB none,oneB none,oneB V,W] [(6,dptr x2),(17,dt x1),(21,dt v18),(23,dt x0.dirs),(70,dfz c13)] [(8,4,dbox V 0 yC),(10,5,dow (Ow.box (owDisk (Ow.frz (α:=Tree)) (Ow.row 235 (Ow.frz (α:=Dir))))) W ⟨yC⟩)] a w) ?_ λ n41=>?_
 ·rintro _ _ ⟨_,V,W,j⟩
  refine aK1 7 ?_
  refine j.cN (l:=[.tmp 23]) 0 (.cons (tp Z) .nil) (FnN.thin thin_row (XT p24)) [6,17,21,70] [8,10] λ _ _ _ _ j=>?_
  have j:=j.gn
  exact aHe n49 (j.fzS (g:=70))
 refine aK2 7 9 ?_ ?_
 ·refine j.cN (l:=[.tmp 23]) 0 (.cons (tp Z) .nil) (FnN.thin thin_row (XT p24)) [6,17,21,70] [8] λ _ _ _ _ j=>?_
  have j:=j.gn
  exact aHe n37 (j.fzS (g:=70))
 ·refine j.alcW (ow:=(owDisk (Ow.frz (α:=Tree)) (Ow.row 235 (Ow.frz (α:=Dir))))) 5 (owDisk.z xh Ow.row_z) [6,17,21,23,70] [8] λ b172 _ _ _ j=>?_
  have j:=j.gn
  have j:=j.unm (s:=10) 5 [8]
  exact aHe n41 (j.fzS (g:=70))
instance:Ct4 prog 181 dt dt dt dt (λ r=>dtup [dt r.1,dt r.2]) Zg:=⟨λ h=>zdI h⟩
def Yf(x0:Disk)(x1:File)(x2:Int):Option (Disk×Bool):=
(xY x0).bind λ v5=>
if((!v5)||cmpI .lss x2 0)=true then(some ((⟨wz,0,[]⟩:Disk),false))
else((Ye x0.tree x1).bind λ v14=>
if(!v14.2)=true then(some ((⟨wz,0,[]⟩:Disk),false))
else((Zg x0 v14.1 x1 x2).bind λ v29=>
some (v29.1,v29.2)))
theorem zdJ{x1:File}(h:Yf x0 x1 x2=some r):Fn prog 143 [dt x0,dt x1,dt x2] (dtup [dt r.1,dt r.2]):=by
 refine fq1 2 func143 λ M _ _ j=>?_
 refine Ka ?_
 refine j.zg 2 λ _ _ j=>?_
 refine j.alA 0 xv [2,3,4] [] λ b3 _ _ _ j=>?_
 refine j.zh 1 [(6,0)] (λ _ _ j=>Kb ?_)
 have⟨v5,p5,h⟩:=bs h
 refine j.zd [(6,0)] h (λ _ _ j h=>?_) λ _ _ j h=>?_
 ·refine Ka ?_
  refine j.zh 1 [(6,0)] (λ _ _ j=>?_) (hs:=sc Z (zT (parts:=[]) (ns:=[1,1,1]) (zs:=qy) Z Z (λ w a hl=>by simp) (λ w a hl=>Disk.parts (x:=(⟨wz,0,[]⟩:Disk)) (xh _ _) ⟨Z,trivial⟩ yj))<|.nil)
  refine j.stA 6 0 FldS.id (tp Z) [] [] λ _ _ j=>?_
  refine j.zh 1 [(6,0)] (λ _ _ j=>Kb ?_)
  obtain rfl:=Option.some.inj h
  exact j.y2
 refine Ka ?_
 have⟨v14,p14,h⟩:=bs h
 refine j.zh 7 [(6,0)] λ _ _ j=>?_
 refine j.alA 1 xh [2,3,4,23,24] [6] λ b18 _ _ _ j=>?_
 refine j.stA 8 1 FldS.id (tp Z) [2,3,4,24] [6] λ _ _ j=>?_
 refine j.zh 1 [(6,0),(8,1)] (λ _ _ j=>Kb ?_)
 refine j.zd [(6,0),(8,1)] h (λ _ _ j h=>?_) λ _ _ j h=>?_
 ·refine Ka ?_
  refine j.zh 1 [(6,0)] (λ _ _ j=>?_) (hs:=sc Z (zT (parts:=[]) (ns:=[1,1,1]) (zs:=qy) Z Z (λ w a hl=>by simp) (λ w a hl=>Disk.parts (x:=(⟨wz,0,[]⟩:Disk)) (xh _ _) ⟨Z,trivial⟩ yj))<|.nil)
  refine j.stA 6 0 FldS.id (tp Z) [] [] λ _ _ j=>?_
  refine j.zh 1 [(6,0)] (λ _ _ j=>Kb ?_)
  obtain rfl:=Option.some.inj h
  exact j.y2
 refine Ka ?_
 have⟨v29,p29,h⟩:=bs h
 refine j.zh 7 [(6,0)] λ _ _ j=>?_
 refine j.stA 6 0 FldS.id (tp Z) [34] [] λ _ _ j=>?_
 refine j.zh 1 [(6,0)] (λ _ _ j=>Kb ?_)
 obtain rfl:=Option.some.inj h
 exact j.y2
instance:Ct3 prog 143 dt dt dt (λ r=>dtup [dt r.1,dt r.2]) Yf:=⟨λ h=>zdJ h⟩
def qk(x0:Tree)(x1:Int):Option (Tree×Bool):=
(y9 x0).bind λ v6=>
(gO ((!v6) == false) (i64 ((x0.files.length:Int) - (1:Int)))).bind λ v7=>
(gO ((!v6) == false) (yb x1 (0:Int) v7)).bind λ v8=>
if((!v6)||(!v8))=true then(some ((⟨[]⟩:Tree),false))
else((jH x0).bind λ v21=>
(i64 (x1+(1:Int))).bind λ v29=>
(q6 v21.files x1 v29).bind λ v36=>
(appO 80 [] v36).bind λ v42=>
some ((⟨v42⟩:Tree),true))
theorem zb9{x0:Tree}{r:Tree×Bool}(h:qk x0 x1=some r):Fn prog 182 [dt x0,dt x1] (dtup [dt r.1,dt r.2]):=by
 refine fq1 5 func182 λ M _ _ j=>?_
 refine Ka ?_
 refine j.zg 1 λ _ _ j=>?_
 refine j.alA 3 xh [1,2] [] λ b3 _ _ _ j=>?_
 have j:=j.gn
 refine j.zh 1 [(4,3)] (λ _ _ j=>Kb ?_)
 have⟨v6,p6,v7,p7,h⟩:=Kg h
 have⟨v8,p8,h⟩:=bs h
 refine j.zd [(4,3)] h (λ _ _ j h=>?_) (λ _ _ j h=>?_) (hs:=sZ 1 (r:=by exact sc Z (oK (wK p6))<|sZ 6 (r:=by exact sg Z Z (λ hg=>xAr Z (zk hg Z) cI (gh hg p7))<|sg Z Z (λ hg=>oK (yP (gh hg p8)))<|segZ)))
 ·refine Ka ?_
  refine j.zh 1 [(4,3)] (λ _ _ j=>?_) (hs:=sc Z (zT (parts:=[]) (ns:=[1]) (zs:=W3) Z Z (λ w a hl=>by simp) (λ w a hl=>Tree.parts (x:=(⟨[]⟩:Tree)) yj))<|.nil)
  refine j.stA 4 3 FldS.id (tp Z) [] [] λ _ _ j=>?_
  refine j.zh 1 [(4,3)] (λ _ _ j=>Kb ?_)
  obtain rfl:=Option.some.inj h
  exact j.y2
 refine Ka ?_
 refine j.zh 1 [(4,3)] λ _ _ j=>?_
 have⟨v21,p21,h⟩:=bs h
 refine j.cN (l:=[.tmp 20]) 0 (.cons (tp Z) .nil) (XS p21) [1] [4] λ _ _ _ _ j=>?_
 have j:=j.gn
 refine j.alcW (ow:=(owTree (Ow.row 59 (Ow.frz (α:=File))))) 4 (owTree.z Ow.row_z) [1] [4,21] λ b24 _ _ _ j=>?_
 have j:=j.gn
 refine j.stO (sb:=6) (tv:=21) 4 0 (PV.root.box Z) (zD Z) [1] [4] λ _ _ j=>?_
 have j:=j.gn
 refine Kb (Ka ?_)
 have⟨v29,p29,h⟩:=bs h
 refine j.hdA 6 4 ((PV.root.box Z).fld owTree.f0) [4] λ g28 A28 _ hA28 j=>?_
 refine j.zh 6 [(4,3),(6,4),(22,2)] (λ _ _ j=>?_) (hs:=sc Z (xn (α:=File) (e:=59) Z)<|sc Z (xFa Z jq (zD Z))<|sc Z (xLc (sb:=6) (.head _) Z Z Z (tp Z) Z)<|segZ)
 refine j.mvG (s:=24) (sb:=6) 4 1 ((PV.root.box Z).fld owTree.f0) (.head _) (yh Z Z) [25,27] [4,22] λ G33 H33 j=>?_
 have j:=j.gs (Gs':=[oneB none,H33,oneB none,oneB (some b3),G33])
 have⟨v36,p36,h⟩:=bs h
 refine j.cT (sb:=24) (l:=[.tmp 25,.tmp 27]) 1 Z Z kN210 Z iI (.cons (tp Z) (.cons (tp Z) .nil)) (zcL p36) [] Z [4,6,22] Z Z λ _ _ _ _ j=>?_
 have j:=j.frzW (s:=28) 1 Z iI [] Z [4,6,22] Z Z
 have j:=j.gn
 have⟨v42,p42,h⟩:=bs h
 refine j.apA 2 yV p42 [] [4,6] λ g41 _ _ _ j=>?_
 have j:=j.gn
 refine j.zh 1 [(4,3),(6,4),(29,2)] (λ _ _ j=>?_) (hs:=sc Z (xFa Z jq (zae Z))<|.nil)
 have j:=j.tipW (s:=29) 2 [4,6]
 refine j.shA 6 29 4 2 (tp Z) [] [4] λ _ _ j=>?_
 have j:=j.gn
 refine Kb ?_
 have j:=j.unm (s:=6) 4 [4]
 have j:=j.frzB (s:=6) 4 [] [4]
 refine Ka ?_
 refine j.zh 1 [(4,3)] λ _ _ j=>?_
 refine j.stA 4 3 FldS.id (tp Z) [] [] λ _ _ j=>?_
 refine j.zh 1 [(4,3)] (λ _ _ j=>Kb ?_)
 obtain rfl:=Option.some.inj h
 exact j.y2
instance:Ct2 prog 182 dt dt (λ r=>dtup [dt r.1,dt r.2]) qk:=⟨λ h=>zb9 h⟩
def ql(x0:Disk)(x1:Int)(x2:Int):Option (Disk×Bool):=
(xY x0).bind λ v5=>
if((!v5)||cmpI .lss x2 0)=true then(some ((⟨wz,0,[]⟩:Disk),false))
else((qk x0.tree x1).bind λ v14=>
if(!v14.2)=true then(some ((⟨wz,0,[]⟩:Disk),false))
else((atI x0.tree.files x1).bind λ v29=>
(Zg x0 v14.1 v29 x2).bind λ v30=>
some (v30.1,v30.2)))
theorem zca(h:ql x0 x1 x2=some r):Fn prog 144 [dt x0,dt x1,dt x2] (dtup [dt r.1,dt r.2]):=by
 refine fq1 2 func144 λ M _ _ j=>?_
 refine Ka ?_
 refine j.zg 1 λ _ _ j=>?_
 refine j.alA 0 xv [1,2,3] [] λ b3 _ _ _ j=>?_
 refine j.zh 1 [(6,0)] (λ _ _ j=>Kb ?_)
 have⟨v5,p5,h⟩:=bs h
 refine j.zd [(6,0)] h (λ _ _ j h=>?_) λ _ _ j h=>?_
 ·refine Ka ?_
  refine j.zh 1 [(6,0)] (λ _ _ j=>?_) (hs:=sc Z (zT (parts:=[]) (ns:=[1,1,1]) (zs:=qy) Z Z (λ w a hl=>by simp) (λ w a hl=>Disk.parts (x:=(⟨wz,0,[]⟩:Disk)) (xh _ _) ⟨Z,trivial⟩ yj))<|.nil)
  refine j.stA 6 0 FldS.id (tp Z) [] [] λ _ _ j=>?_
  refine j.zh 1 [(6,0)] (λ _ _ j=>Kb ?_)
  obtain rfl:=Option.some.inj h
  exact j.y2
 refine Ka ?_
 have⟨v14,p14,h⟩:=bs h
 refine j.zh 7 [(6,0)] λ _ _ j=>?_
 refine j.alA 1 xh [1,2,3,23,24] [6] λ b18 _ _ _ j=>?_
 refine j.stA 8 1 FldS.id (tp Z) [1,2,3,24] [6] λ _ _ j=>?_
 refine j.zh 1 [(6,0),(8,1)] (λ _ _ j=>Kb ?_)
 refine j.zd [(6,0),(8,1)] h (λ _ _ j h=>?_) λ _ _ j h=>?_
 ·refine Ka ?_
  refine j.zh 1 [(6,0)] (λ _ _ j=>?_) (hs:=sc Z (zT (parts:=[]) (ns:=[1,1,1]) (zs:=qy) Z Z (λ w a hl=>by simp) (λ w a hl=>Disk.parts (x:=(⟨wz,0,[]⟩:Disk)) (xh _ _) ⟨Z,trivial⟩ yj))<|.nil)
  refine j.stA 6 0 FldS.id (tp Z) [] [] λ _ _ j=>?_
  refine j.zh 1 [(6,0)] (λ _ _ j=>Kb ?_)
  obtain rfl:=Option.some.inj h
  exact j.y2
 have⟨v29,p29,v30,p30,h⟩:=Kg h
 refine j.zu 12 [(6,0)] λ _ _ j=>?_
 refine j.store (sb:=6) 0 FldS.id Z Z Z kT64 Z Z (tp Z) Z [39] Z [] Z Z λ _ _ j=>?_
 refine j.zh 1 [(6,0)] (λ _ _ j=>Kb ?_)
 obtain rfl:=Option.some.inj h
 exact j.y2
instance:Ct3 prog 144 dt dt dt (λ r=>dtup [dt r.1,dt r.2]) ql:=⟨λ h=>zca h⟩
def ZF(x0:Tree)(x1:Int)(x2:Int)(x3:List Stmt):Option (Tree×Bool):=
(y9 x0).bind λ v6=>
(gO ((!v6) == false) (i64 ((x0.files.length:Int) - (1:Int)))).bind λ v7=>
(gO ((!v6) == false) (yb x1 (0:Int) v7)).bind λ v8=>
if((!v6)||(!v8))=true then(some ((⟨[]⟩:Tree),false))
else((jH x0).bind λ v21=>
(atI v21.files x1).bind λ v29=>
(jF x3).bind λ v41=>
(y9 (⟨(v21.files.set x1.toNat ({ v29 with stamp:=x2,body:=v41 }))⟩:Tree)).bind λ v62=>
if(!v62)=true then(some ((⟨[]⟩:Tree),false))
else(some ((⟨(v21.files.set x1.toNat ({ v29 with stamp:=x2,body:=v41 }))⟩:Tree),true)))
theorem zdl{x0:Tree}{r:Tree×Bool}(h:ZF x0 x1 x2 x3=some r):Fn prog 145 [dt x0,dt x1,dt x2,dt x3] (dtup [dt r.1,dt r.2]):=by
 refine fq1 6 func145 λ M _ _ j=>?_
 refine Ka ?_
 refine j.zg 1 λ _ _ j=>?_
 refine j.alA 4 xh [1,2,3,4] [] λ b3 _ _ _ j=>?_
 have j:=j.gn
 refine j.zh 1 [(8,4)] (λ _ _ j=>Kb ?_)
 have⟨v6,p6,v7,p7,h⟩:=Kg h
 have⟨v8,p8,h⟩:=bs h
 refine j.zd [(8,4)] h (λ _ _ j h=>?_) (λ _ _ j h=>?_) (hs:=sZ 1 (r:=by exact sc Z (oK (wK p6))<|sZ 6 (r:=by exact sg Z Z (λ hg=>xAr Z (zk hg Z) cI (gh hg p7))<|sg Z Z (λ hg=>oK (yP (gh hg p8)))<|segZ)))
 ·refine Ka ?_
  refine j.zh 1 [(8,4)] (λ _ _ j=>?_) (hs:=sc Z (zT (parts:=[]) (ns:=[1]) (zs:=W3) Z Z (λ w a hl=>by simp) (λ w a hl=>Tree.parts (x:=(⟨[]⟩:Tree)) yj))<|.nil)
  refine j.stA 8 4 FldS.id (tp Z) [] [] λ _ _ j=>?_
  refine j.zh 1 [(8,4)] (λ _ _ j=>Kb ?_)
  obtain rfl:=Option.some.inj h
  exact j.y2
 refine Ka ?_
 refine j.zh 1 [(8,4)] λ _ _ j=>?_
 have⟨v21,p21,h⟩:=bs h
 refine j.cN (l:=[.tmp 24]) 0 (.cons (tp Z) .nil) (XS p21) [1,2,3] [8] λ _ _ _ _ j=>?_
 have j:=j.gn
 refine j.alcW (ow:=(owTree (Ow.row 59 (Ow.frz (α:=File))))) 5 (owTree.z Ow.row_z) [1,2,3] [8,25] λ b24 _ _ _ j=>?_
 have j:=j.gn
 refine j.stO (sb:=10) (tv:=25) 5 0 (PV.root.box Z) (zD Z) [1,2,3] [8] λ _ _ j=>?_
 have j:=j.gn
 refine Kb (Ka ?_)
 have⟨v29,p29,h⟩:=bs h
 refine j.hdA 10 5 ((PV.root.box Z).fld owTree.f0) [8] λ g28 A28 _ hA28 j=>?_
 refine j.zh 6 [(8,4),(10,5)] (λ _ _ j=>?_) (hs:=sc Z (xFa Z jq (zD Z))<|sc Z (xLc (sb:=10) (.head _) Z Z Z (tp Z) Z)<|sZ 2 (r:=by exact sc Z (xIa (g:=g28) Z kS34 (tp Z) (tp Z) Z (λ h=>hA28 h Z) p29)<|segZ))
 refine j.sfA 10 5 ((((PV.root.box Z).fld owTree.f0).row (.head _) Z (λ h=>hA28 h Z) p29).fld File.z4) (tp Z) (tp Z) [1,3] [8] (λ _ j=>Kb ?_)
 refine j.hdA 10 5 ((PV.root.box Z).fld owTree.f0) [8] λ g33 A33 c33 hA33 j=>?_
 refine j.held (λ w=>w.cell? ⟨b24,0,none⟩=some (.slice A33 ((v21.files.set x1.toNat ({ v29 with stamp:=x2 })).length) c33)) zL λ _ j=>?_
 refine j.tk (i:=0) Z Z (by decide +kernel) (by decide +kernel) (by decide +kernel) (λ _ _ _ h=>h) (j.cellS (sb:=10) (.head _)) (yFa Z jq (j.st.has 10 _ Z).1) λ _ j=>?_
 refine j.tk (i:=1) Z Z (by decide +kernel) (by decide +kernel) (by decide +kernel) (λ _ _ _ h=>h) (j.cellS (sb:=10) (.head _)) (yLd Z (j.st.has 32 _ Z)) λ _ j=>?_
 refine j.tM 2 1 (j.cellS (sb:=10) (.head _)) λ _ j=>?_
 refine j.tM 3 3 (j.cellS (sb:=10) (.head _)) λ _ j=>?_
 refine j.mvN (s:=33) (sb:=10) 5 2 ((PV.root.box Z).fld owTree.f0) (.head _) Z (yh Z Z) Z Z (by simp) (by simp) (by decide) Z iI [1,3,32,34,35] Z [8] Z Z Z Z (by decide) λ _ H39 j=>?_
 have⟨v41,p41,h⟩:=bs h
 refine aK1 4 ?_
 refine j.cN (l:=[.tmp 35]) 3 (.cons (tp Z) .nil) (J2 p41).n [34] [8,10,33] λ _ _ _ _ j=>?_
 have j:=j.gn
 refine aHN (j.hkS (sb:=10)) ?_
 refine aK1 5 ?_
 refine j.zh 1 [(8,4),(10,5),(33,2),(36,3)] (λ _ _ j=>?_) (hs:=sc Z (xIaN Z kS34 Z (tp Z) (λ h=>hA33 h Z) (xf p29))<|.nil)
 refine aHN (j.hkS (sb:=10)) ?_
 refine aK1 6 ?_
 refine j.zh 1 [(8,4),(10,5),(33,2),(36,3)] λ _ _ j=>?_
 refine aHN (j.hkS (sb:=10)) ?_
 refine aK1 7 ?_
 have j:=j.frzW (s:=36) 3 Z iI [38] Z [8,10,33] Z Z
 refine j.sfA 33 2 (((PV.root.row Z (λ h=>hA33 h Z) (xf p29)).conv (upd':=λ z=>(v21.files.set x1.toNat z)) (λ _=>by simp only[List.set_set])).fld File.z5) (tp Z) (tp Z) [] [8,10] λ _ j=>?_
 have j:=j.gn
 refine aHN (j.hkS (sb:=10)) ?_
 refine aK0 ?_
 refine j.stG (s:=33) (sb:=10) 5 2 Z (by simp) (by simp) (by decide) Z Z iI iI [] Z [8] Z Z Z λ _ j=>?_
 have j:=j.gn
 have⟨v62,p62,h⟩:=bs h
 refine j.hdW (s:=10) 5 true (λ _=>(PV.root.box Z)) iI [8] λ cs61 hS61 j=>?_
 refine j.zo [(8,4),(10,5)] (λ _ _ j=>?_) (hs:=sc Z (xLw (sb:=10) (.head _) Z (hS61 Z) Z (zD Z) Z)<|sc Z (yH (l:=[.tmp 39]) j.ob.sub Z (.cons (zaT (sb:=10) j.ob 5 (PV.root.box Z) (.head _) Z (zbV Z (hS61 Z)) (tp Z) Z iI) .nil) (wK p62) w8)<|segZ)
 have j:=j.ncf (s:=10) 5 [8]
 refine j.cq h (λ h=>?_) λ h=>?_
 ·refine Ka ?_
  refine j.zh 1 [(8,4)] (λ _ _ j=>?_) (hs:=sc Z (zT (parts:=[]) (ns:=[1]) (zs:=W3) Z Z (λ w a hl=>by simp) (λ w a hl=>Tree.parts (x:=(⟨[]⟩:Tree)) yj))<|.nil)
  refine j.stA 8 4 FldS.id (tp Z) [] [] λ _ _ j=>?_
  refine j.zh 1 [(8,4)] (λ _ _ j=>Kb ?_)
  obtain rfl:=Option.some.inj h
  exact j.y2
 have j:=j.unm (s:=10) 5 [8]
 have j:=j.frzB (s:=10) 5 [41] [8]
 refine Ka ?_
 refine j.zh 1 [(8,4)] λ _ _ j=>?_
 refine j.stA 8 4 FldS.id (tp Z) [] [] λ _ _ j=>?_
 refine j.zh 1 [(8,4)] (λ _ _ j=>Kb ?_)
 obtain rfl:=Option.some.inj h
 exact j.y2
instance:Ct4 prog 145 dt dt dt dt (λ r=>dtup [dt r.1,dt r.2]) ZF:=⟨λ h=>zdl h⟩
def qC(x0:Disk)(x1:GAct)(x2:Int):Option (Disk×Bool):=
if cmpI .eql x1.kind 0 then((i64 (x0.clock+x2)).bind λ v16=>
(Yf x0 ({ x1.file with stamp:=v16 }) x2).bind λ v21=>
some (v21.1,v21.2))
else(if cmpI .eql x1.kind 1 then((ql x0 x1.index x2).bind λ v30=>
some (v30.1,v30.2))
else((i64 (x0.clock+x2)).bind λ v36=>
(ZF x0.tree x1.index v36 x1.file.body).bind λ v37=>
(i64 (x0.clock+x2)).bind λ v47=>
(Zf x0.dirs).bind λ v48=>
(gO ((!v37.2) == false) (xY (⟨v37.1,v47,v48⟩:Disk))).bind λ v54=>
if((!v37.2)||(!v54))=true then(some ((⟨wz,0,[]⟩:Disk),false))
else(some ((⟨v37.1,v47,v48⟩:Disk),true))))
theorem za2{x1:GAct}(h:qC x0 x1 x2=some r):Fn prog 107 [dt x0,dt x1,dt x2] (dtup [dt r.1,dt r.2]):=by
 refine fq1 4 func107 λ M _ _ j=>?_
 refine Ka ?_
 refine j.zg 2 λ _ _ j=>?_
 refine j.alA 0 xv [2,3,4] [] λ b3 _ _ _ j=>?_
 have j:=j.gn
 refine j.zh 1 [(6,0)] (λ _ _ j=>Kb ?_)
 refine j.zo [(6,0)] λ _ _ j=>?_
 refine j.zd [(6,0)] h (λ _ _ j h=>?_) λ _ _ j h=>?_
 ·refine Ka ?_
  refine j.zh 2 [(6,0)] λ _ _ j=>?_
  refine j.alA 1 JD [2,3,17] [6] λ b12 _ _ _ j=>?_
  have j:=j.gn
  refine j.stA 8 1 FldS.id (tp Z) [2,3] [6] (λ _ _ j=>Kb (Ka ?_))
  have⟨v16,p16,h⟩:=bs h
  refine j.zh 5 [(6,0),(8,1),(22,1)] λ _ _ j=>?_
  refine j.stA 8 1 File.set4 (tp Z) [2,3] [6] (λ _ _ j=>Kb (Ka ?_))
  have⟨v21,p21,h⟩:=bs h
  refine j.zh 6 [(6,0)] λ _ _ j=>?_
  refine j.stA 6 0 FldS.id (tp Z) [28] [] λ _ _ j=>?_
  refine j.zh 1 [(6,0)] (λ _ _ j=>Kb ?_)
  obtain rfl:=Option.some.inj h
  exact j.y2
 refine j.zd [(6,0)] h (λ _ _ j h=>?_) λ _ _ j h=>?_
 ·refine Ka ?_
  have⟨v30,p30,h⟩:=bs h
  refine j.zh 7 [(6,0)] λ _ _ j=>?_
  refine j.stA 6 0 FldS.id (tp Z) [37] [] λ _ _ j=>?_
  refine j.zh 1 [(6,0)] (λ _ _ j=>Kb ?_)
  obtain rfl:=Option.some.inj h
  exact j.y2
 refine Ka ?_
 have⟨v36,p36,v37,p37,h⟩:=Kg h
 refine j.zh 15 [(6,0)] λ _ _ j=>?_
 refine j.alA 2 xh [2,3,51,52] [6] λ b42 _ _ _ j=>?_
 have j:=j.gn
 refine j.stA 9 2 FldS.id (tp Z) [2,3,52] [6] λ _ _ j=>?_
 refine j.zh 1 [(6,0),(9,2)] (λ _ _ j=>Kb ?_)
 have⟨v47,p47,v48,p48,h⟩:=Kg h
 refine j.alc (D:=[_,_,_,_,_,_,_,_,_,QD]) [mkBox 9 11 64 zcDisk 3 yC xv] zL 10 [[(9,nS)],[(3,nS)],[(54,1)],[(2,nS)],[(55,2),(56,3)],[(3,nS)],[(58,5)],[(59,6)],[(53,0),(57,4),(60,7)],[],[(11,9),(61,8)]] (by decide +kernel) (by decide) (by decide +kernel) ⟨kZ64,trivial⟩ (by decide) (by decide) (by simp[mkBox]) (λ M51 hM51=>
  ac Z Z Z (wH Z (tp Z))<|ac Z Z Z (zA Disk.fld1 Z (ht:=zam) (tp Z))<|ac Z Z Z (zr Z (tp Z))<|ac Z Z Z (oM Z (tp Z))<|ac Z Z Z (xAr Z (tp Z) (tp Z) p47)<|ac Z Z Z (zA Disk.fld2 Z (ht:=Xs) (tp Z))<|ac Z Z Z (zr Z (tp Z))<|ac Z Z Z (zF (l:=[.tmp 59]) Z (.cons (tp Z) .nil) (FnN.fn<|XT p48))<|ac Z Z Z (Qp Z (tp Z) (tp Z) (tp Z))<|al Z Z<|.nil) [10,61] Z [6] Z Z Z Z (λ β51 M51 _ _ j=>?_)
 refine j.stA 11 3 FldS.id (tp Z) [10] [6] (λ _ _ j=>Kb ?_)
 have⟨v54,p54,h⟩:=bs h
 refine j.zd [(6,0),(11,3)] h (λ _ _ j h=>?_) (λ _ _ j h=>?_) (hs:=sZ 4 (r:=by exact sg Z Z (λ hg=>oK (XQ (gh hg p54)))<|segZ))
 ·refine Ka ?_
  refine j.zh 1 [(6,0)] (λ _ _ j=>?_) (hs:=sc Z (zT (parts:=[]) (ns:=[1,1,1]) (zs:=qy) Z Z (λ w a hl=>by simp) (λ w a hl=>Disk.parts (x:=(⟨wz,0,[]⟩:Disk)) (xh _ _) ⟨Z,trivial⟩ yj))<|.nil)
  refine j.stA 6 0 FldS.id (tp Z) [] [] λ _ _ j=>?_
  refine j.zh 1 [(6,0)] (λ _ _ j=>Kb ?_)
  obtain rfl:=Option.some.inj h
  exact j.y2
 refine Ka ?_
 refine j.zh 1 [(6,0)] λ _ _ j=>?_
 refine j.stA 6 0 FldS.id (tp Z) [] [] λ _ _ j=>?_
 refine j.zh 1 [(6,0)] (λ _ _ j=>Kb ?_)
 obtain rfl:=Option.some.inj h
 exact j.y2
instance:Ct3 prog 107 dt dt dt (λ r=>dtup [dt r.1,dt r.2]) qC:=⟨λ h=>za2 h⟩
def jc(R:Rec)(x0:Disk)(x1:Str)(x2:List Int):Option (List Int):=
(Xn x0.tree x2 (120:Int)).bind λ v4=>
(R.impl_machine_load1 v4 x1).bind λ v10=>
(appO 8 [v10.2.2] v10.1.out).bind λ v20=>
some v20
theorem zcb(hR:R.ok){x1:Str}{x2:List Int}{r:List Int}(h:jc R x0 x1 x2=some r):FnOwn prog 68 [dt x0,dt x1,dptr x2] 3 r:=by
 refine fqO 2 func68 λ M _ _ j=>?_
 refine j.rg2 (sZ 1 (r:=by exact sc Z (oA Z (jl (α:=Int)))<|.nil)) [1,2,3] (λ _ _ j=>Ka ?_)
 refine j.segA 3 [1,10,11] [] λ _ _ j=>?_
 have⟨v4,p4,h⟩:=bs h
 refine j.cN (l:=[.tmp 10,.tmp 11,.const (.int .i64 120)]) 1 (.cons (tp Z) (.cons (tp Z) (.cons cI .nil))) (zb5 p4) [1] [] λ _ _ _ _ j=>?_
 refine j.nmB (s:=12) 1 [] λ b6 j=>?_
 refine j.segA 1 [1] [(6,1)] (λ _ _ j=>Kb (Ka ?_))
 refine j.segA 2 [15] [(6,1),(14,1)] λ _ _ j=>?_
 have⟨v10,p10,h⟩:=bs h
 refine j.cSF (l:=[.tmp 15]) 1 (j.bkN (s:=6) Z iI) Z Z kN69 ((j.st.has 14 _ Z).1.trans (j.st.has 6 _ Z).1.symm) (by simp) (.cons (tp Z) .nil) (hR.impl_machine_load1 p10) [] Z [] Z Z (by decide) λ _ _ _ _ j=>?_
 refine j.segA 5 [8] [(6,1)] (λ _ _ j=>Kb (Ka ?_))
 refine j.segA 1 [19] [(6,1)] λ _ _ j=>?_
 refine j.litW (oe:=(Ow.frz (α:=Int))) (opds:=[.tmp 19]) (xs:=[v10.2.2]) 0 [] kI25 kY25 (qf (oe:=(Ow.frz (α:=Int))) (G1:=noB) (qV (j.st.has 19 _ Z)) (λ _ h=>h.elim)) (λ q hq=>by
 simp only[List.mem_cons,List.not_mem_nil,or_false] at hq
 subst hq
 exact Rep.len (qV (j.st.has 19 _ Z))) [] [6] (λ _ _ _ _ j=>?_)
 refine j.hdA 6 1 ((PV.root.box Z).fld owMachine.f5) [20] λ g15 A15 _ hA15 j=>?_
 refine j.segB 4 (sc Z (oM Z (tp Z))<|sc Z (xNcN Z Z)<|sc Z (xFa Z kF122_5 (zD Z))<|sc Z (xLc (sb:=6) (.head _) Z Z Z (tp Z) Z)<|.nil) [24] [(6,1),(20,0)] λ _ _ j=>?_
 refine j.tipR (s:=20) 0 (by first | (simp;done) | exact oD rfl) [6] λ g18 j=>?_
 have⟨v20,p20,h⟩:=bs h
 refine j.appH 0 Z Z kE25 Z Z (j.rowH (sb:=6) ((PV.root.box Z).fld owMachine.f5) (.head _) Z (yh Z Z) Z Z) p20 [] Z [6] Z Z λ g19 _ _ _ j=>?_
 refine j.segA 1 [] [(5,0)] (λ _ _ j=>Kb ?_)
 exact j.ret_own 0 Z Z iI h
def jQ(x0:List GAct)(x1:Int)(x2:(Disk->Str->Option (List Int)))(s14:Disk×(List (List Int))×Int):Option ((Disk×(List (List Int))×Int)⊕(Disk×(List (List Int)))):=
if(cmpI .lss s14.2.2 (x0.length:Int))=true then(Option.bind (α:=Disk×(List (List Int))) ((atI x0 s14.2.2).bind λ v20=>
if cmpI .eql v20.kind 3 then((x2 s14.1 v20.name).bind λ v31=>
(appO 24 s14.2.1 ([v31]:List (List Int))).bind λ v36=>
some (s14.1,v36))
else((qC s14.1 v20 x1).bind λ v40=>
if v40.2=true then((appO 24 s14.2.1 ([([(1:Int)]:List Int)]:List (List Int))).bind λ v58=>
some (v40.1,v58))
else((appO 24 s14.2.1 ([([(0:Int)]:List Int)]:List (List Int))).bind λ v65=>
some (s14.1,v65)))) λ o19=>
(i64 (s14.2.2+(1:Int))).bind λ v70=>
some (.inl (o19.1,o19.2,v70)))
else(some (.inr (s14.1,s14.2.1)))
def Wm(x0:List GAct)(x1:Int)(x2:(Disk->Str->Option (List Int))):Option (Disk×(List (List Int))):=
Option.bind (α:=Disk×(List (List Int))) (zE (λ s14=>jQ x0 x1 x2 s14) ((⟨(⟨([]:List File)⟩:Tree),(0:Int),([]:List Dir)⟩:Disk),[],(0:Int))) λ o12=>
some (o12.1,o12.2)
theorem impl_walk_w{x0:List GAct}{x2:(Disk->Str->Option (List Int))}{r:Disk×(List (List Int))}(h:Wm x0 x1 x2=some r):Fn prog 67 [dt x0,dt x1,dfn2 prog x2] (dtup [dt r.1,dt r.2]):=by
 refine fq1 5 func67 λ M w0 _ j=>?_
 refine Ka ?_
 refine j.alA 1 xv [0,1,2] [] λ b2 _ _ _ j=>?_
 have j:=j.gn
 refine j.zh 1 [(6,1)] (λ _ _ j=>?_) (hs:=sc Z (oA Z (Z1 (α:=List Int) (e:=25)))<|.nil)
 refine Kb (Ka ?_)
 refine j.zh 4 [(6,1)] (λ _ _ j=>?_) (hs:=sc Z (xt (opds:=[]) (α:=File) Z Z Z .nil)<|sc Z (kD36_0 Z (tp Z))<|sc Z (xt (opds:=[]) (α:=Dir) Z Z Z .nil)<|sc Z (Qp Z (tp Z) cI (tp Z))<|.nil)
 refine j.alA 2 xv [0,1,2,17] [6] λ b7 _ _ _ j=>?_
 have j:=j.gn
 refine j.stA 8 2 FldS.id (tp Z) [0,1,2] [6] (λ _ _ j=>Kb ?_)
 refine j.zo [(6,1),(8,2),(9,0)] (λ _ _ j=>?_) (hs:=sc Z (xn (α:=List Int) (e:=25) Z)<|segZ)
 refine za ?_
 refine j.jmq 5 [] (λ _=>[]) (λ o12 q=>[(6,1,dbox (q 1) 0 yC),(8,2,dbox (q 2) 0 o12.1),(9,0,dtip (q 0) 25 o12.2)]) h (λ o12 p12=>?_) λ o12 q12 _ _ _ j h=>?_
 ·refine j.zo [(6,1),(8,2),(9,0)] λ _ _ j=>?_
  refine wql p12 (λ s14 a w=>∃ M1 Q R T U V,Sx (Frm.of w0) 56 M M1 [oneB Q,oneB R,oneB T,oneB U,oneB V] [(1,dt x1),(19,dt x0),(20,dt (x0.length:Int)),(21,dt s14.2.2),(2,dfn2 prog x2)] [(6,1,dbox R 0 yC),(8,2,dbox T 0 s14.1),(9,0,dtip Q 25 s14.2.1)] a w) fx ?_
  rintro s14 z14 _ _ ⟨_,Q,R,T,U,V,j⟩ hs14 hx14
  have h:jQ x0 x1 x2 s14=some z14:=hs14
  unfold jQ at h
  refine j.zd [(6,1),(8,2),(9,0)] h (λ _ _ j h=>?_) λ _ _ j h=>?_
  ·refine wqk (za ?_)
   refine j.jmq 5 [1,19,20,21,2] (λ _=>[]) (λ o19 q=>[(6,1,dbox (q 1) 0 yC),(8,2,dbox (q 2) 0 o19.1),(9,0,dtip (q 0) 25 o19.2)]) h (λ o19 p19=>?_) λ o19 q19 _ _ _ j h=>?_
   ·refine Ka ?_
    have⟨v20,p20,h⟩:=bs p19
    refine j.zh 2 [(6,1),(8,2),(9,0)] λ _ _ j=>?_
    refine j.alA 3 zrGAct [1,2,19,20,21,24] [6,8,9] λ b24 _ _ _ j=>?_
    have j:=j.gn
    refine j.stA 11 3 FldS.id (tp Z) [1,2,19,20,21] [6,8,9] (λ _ _ j=>Kb ?_)
    refine j.zd [(6,1),(8,2),(9,0),(11,3)] h (λ _ _ j h=>?_) λ _ _ j h=>?_
    ·refine Ka ?_
     have⟨v31,p31,h⟩:=bs h
     refine j.zh 7 [(6,1),(8,2),(9,0),(28,0)] (λ _ _ j=>?_) (hs:=sZ 5 (r:=by exact sc Z (xCaF2 Z (tp Z) (tp Z) (tp Z) p31)<|segZ))
     have⟨v36,p36,h⟩:=bs h
     refine j.apA 0 yV p36 [1,2,19,20,21] [6,8] λ g35 _ _ _ j=>?_
     have j:=j.gn
     refine j.zh 1 [(6,1),(8,2),(9,0)] (λ _ _ j=>Kb ?_)
     cases h
     exact fz
    refine Ka ?_
    have⟨v40,p40,h⟩:=bs h
    refine j.zh 7 [(6,1),(8,2),(9,0)] λ _ _ j=>?_
    refine j.alA 4 xv [1,2,19,20,21,41,42] [6,8,9] λ b44 _ _ _ j=>?_
    have j:=j.gn
    refine j.stA 12 4 FldS.id (tp Z) [1,2,19,20,21,42] [6,8,9] λ _ _ j=>?_
    refine j.zh 1 [(6,1),(8,2),(9,0),(12,4)] (λ _ _ j=>Kb ?_)
    refine j.zd [(6,1),(8,2),(9,0),(12,4)] h (λ _ _ j h=>?_) λ _ _ j h=>?_
    ·refine Ka ?_
     refine j.zh 1 [(6,1),(8,2),(9,0)] λ _ _ j=>?_
     refine j.stA 8 2 FldS.id (tp Z) [1,2,19,20,21] [6,9] (λ _ _ j=>Kb (Ka ?_))
     refine j.zh 3 [(6,1),(8,2),(9,0),(45,0)] (λ _ _ j=>?_) (hs:=sZ 1 (r:=by exact sc Z (xt (opds:=[.const (.int .i64 1)]) Z Z Z (.cons cI .nil))<|segZ))
     have⟨v58,p58,h⟩:=bs h
     refine j.apA 0 yV p58 [1,2,19,20,21] [6,8] λ g57 _ _ _ j=>?_
     have j:=j.gn
     refine j.zh 1 [(6,1),(8,2),(9,0)] (λ _ _ j=>Kb ?_)
     cases h
     exact fz
    refine Ka ?_
    refine j.zh 3 [(6,1),(8,2),(9,0),(49,0)] (λ _ _ j=>?_) (hs:=sZ 1 (r:=by exact sc Z (xt (opds:=[.const (.int .i64 0)]) Z Z Z (.cons cI .nil))<|segZ))
    have⟨v65,p65,h⟩:=bs h
    refine j.apA 0 yV p65 [1,2,19,20,21] [6,8] λ g64 _ _ _ j=>?_
    have j:=j.gn
    refine j.zh 1 [(6,1),(8,2),(9,0)] (λ _ _ j=>Kb ?_)
    cases h
    exact fz
   have⟨v70,p70,h⟩:=bs h
   exact j.zn [(6,1),(8,2),(9,0)] h
  have h:=lo h hx14
  cases h
  exact fz
 refine Ka ?_
 refine j.zh 2 [(6,1),(55,0)] λ _ _ j=>?_
 refine j.stA 6 1 FldS.id (tp Z) [] [55] λ _ _ j=>?_
 refine j.zh 1 [(6,1),(7,0)] (λ _ _ j=>Kb ?_)
 obtain rfl:=Option.some.inj h
 exact j.ret2c Z kT64 Z (j.frozenT (t:=7) 0 Z iI) Z Z
def Wv(R:Rec)(x0:List GAct)(x1:List Int)(x2:Int):Option (List (List Int)):=
(ZR x0 x2).bind λ v2=>
(gO ((!v2) == false) (jB x1)).bind λ v3=>
if((!v2)||(!v3))=true then(some ([]:List (List Int)))
else((Wm x0 x2 (λ a0 a1=>jc R a0 a1 x1)).bind λ v10=>
some v10.2)
def Y0(_x0:Disk)(_x1:Str):Option (List Int):=
some ([]:List Int)
theorem Je{x1:Str}{r:List Int}(h:Y0 x0 x1=some r):Fn prog 75 [dt x0,dt x1] (dt r):=by
 refine fq1 0 func75 λ M _ _ j=>?_
 refine j.z1 (λ _ _ j=>?_) (hs:=sZ 1 (r:=by exact sc Z (oA Z (jl (α:=Int)))<|.nil))
 exact j.ze h (hs:=sc Z (oA Z (jl (α:=Int)))<|.nil)
instance:Ct2 prog 75 dt dt dt Y0:=⟨λ h=>Je h⟩
def J3(x0:List GAct)(x1:Int):Option Disk:=
(ZR x0 x1).bind λ v3=>
if(!v3)=true then(some (⟨wz,0,[]⟩:Disk))
else((Wm x0 x1 Y0).bind λ v11=>
some v11.1)
theorem zcN{x0:List GAct}{r:Disk}(h:J3 x0 x1=some r):Fn prog 26 [dt x0,dt x1] (dt r):=by
 refine fq1 2 func26 λ M _ _ j=>?_
 refine Ka ?_
 refine j.alA 0 xv [0,1] [] (λ b2 _ _ _ j=>Kb ?_)
 have⟨v3,p3,h⟩:=bs h
 refine j.zd [(4,0)] h (λ _ _ j h=>?_) λ _ _ j h=>?_
 ·refine Ka ?_
  refine j.zh 1 [(4,0)] (λ _ _ j=>?_) (hs:=sc Z (zT (parts:=[]) (ns:=[1,1,1]) (zs:=qy) Z Z (λ w a hl=>by simp) (λ w a hl=>Disk.parts (x:=(⟨wz,0,[]⟩:Disk)) (xh _ _) ⟨Z,trivial⟩ yj))<|.nil)
  refine j.stA 4 0 FldS.id (tp Z) [] [] (λ _ _ j=>Kb ?_)
  exact j.yB h
 refine Ka ?_
 have⟨v11,p11,h⟩:=bs h
 refine j.zh 6 [(4,0)] (λ _ _ j=>?_) (hs:=sZ 2 (r:=by exact sc Z (zF (l:=[.tmp 13,.tmp 14,.func 75]) Z (.cons (tp Z) (.cons (tp Z) (.cons (opd_fun2 kN75 (λ _ _ _ h=>Je h)) .nil))) (impl_walk_w p11))<|segZ))
 refine j.alA 1 xv [16,17] [4] λ b15 _ _ _ j=>?_
 refine j.stA 5 1 FldS.id (tp Z) [17] [4] λ _ _ j=>?_
 refine j.zh 1 [(4,0),(5,1)] (λ _ _ j=>Kb (Ka ?_))
 refine j.zh 1 [(4,0)] λ _ _ j=>?_
 refine j.stA 4 0 FldS.id (tp Z) [] [] (λ _ _ j=>Kb ?_)
 exact j.yB h
instance:Ct2 prog 26 dt dt dt J3:=⟨λ h=>zcN h⟩
end Go.Proofs.YtandbaloaenciaaGreatDoor
