import Derived.Test.YtoomehfflopakaaGreatDoorTJ
namespace Go.Proofs.YtoomehfflopakaaGreatDoor
open Go.RowKit Tryz
attribute [local irreducible] OpRel OpdR
set_option maxRecDepth 10000
set_option maxHeartbeats 1600000
variable{r:Bool}{x0:Disk}{x1 x2 x4:Int}{x3:List Stmt}
theorem kD166_0_1_2:∀ {M:Nat->Prop} {look:Nat->Option Dt} {o:Oper} {q0 q1 q2:Operand} {y0:Int} {y1:Str} {y2:Int},o.op=.build 166 #[(0,q0),(1,q1),(2,q2)]->OpdR M look q0 (dt y0)->OpdR M look q1 (dt y1)->OpdR M look q2 (dt y2)->OpRel prog M look o (dt (⟨y0,y1,y2,[]⟩:Dir)):=@λ _ _ _ q0 q1 q2 y0 y1 y2 ho h0 h1 h2=>yf (parts:=[(0,q0),(1,q1),(2,q2)]) (ns:=[1,1,1,1]) (zs:=zpDir) Z ho (λ w a hl=>FA ⟨(by decide:0<4),Rep.len (α:=Int) (OpdR.cells h0 hl)⟩ (FA ⟨(by decide:1<4),Rep.len (α:=Str) (OpdR.cells h1 hl)⟩ (FA ⟨(by decide:2<4),Rep.len (α:=Int) (OpdR.cells h2 hl)⟩ FN))) (λ w a hl=>Dir.parts (x:=(⟨y0,y1,y2,[]⟩:Dir)) (OpdR.cells h0 hl) (OpdR.cells h1 hl) (OpdR.cells h2 hl) yA)
instance iF166_2WbA:FldO prog 166 2 2:=⟨kF166_2⟩
instance iF45_4WbA:FldO prog 45 4 4:=⟨kF45_4⟩
instance iF45_5WbA:FldO prog 45 5 5:=⟨kF45_5⟩
instance iF65_0WbA:FldO prog 65 0 0:=⟨qr⟩
instance iF68_1WbA:FldO prog 68 1 1:=⟨zbj⟩
instance iF68_2WbA:FldO prog 68 2 2:=⟨Wi⟩
def ZR(x0:Stmt):Option Bool:=
if cmpI .eql x0.kind 0 then((yw x0.module).bind λ v6=>
some (((v6&&cmpI .eql x0.level 0)&&decide (x0.name=(⟨[]⟩:Str)))&&cmpI .eql x0.value 0))
else(if cmpI .eql x0.kind 1 then((yT x0.module).bind λ a8=>
(gO (a8 == true) (yt x0.level (0:Int) (3:Int))).bind λ a9=>
(gO (((a8&&a9)&&(decide (x0.module≠(⟨[]⟩:Str))||cmpI .gtr x0.level 0)) == true) (wg x0.name)).bind λ b5=>
some ((((a8&&a9)&&(decide (x0.module≠(⟨[]⟩:Str))||cmpI .gtr x0.level 0))&&b5)&&cmpI .eql x0.value 0))
else(if cmpI .eql x0.kind 2 then((yw x0.module).bind λ b6=>
some (((b6&&cmpI .eql x0.level 0)&&decide (x0.name=(⟨[]⟩:Str)))&&cmpI .eql x0.value 0))
else(if cmpI .eql x0.kind 3 then((gO ((decide (x0.module=(⟨[]⟩:Str))&&cmpI .eql x0.level 0) == true) (wg x0.name)).bind λ b3=>
(gO (((decide (x0.module=(⟨[]⟩:Str))&&cmpI .eql x0.level 0)&&b3) == true) (yt x0.value (0:Int) (99:Int))).bind λ b7=>
some (((decide (x0.module=(⟨[]⟩:Str))&&cmpI .eql x0.level 0)&&b3)&&b7))
else(if cmpI .eql x0.kind 4 then((gO ((decide (x0.module=(⟨[]⟩:Str))&&cmpI .eql x0.level 0) == true) (wg x0.name)).bind λ b8=>
some (((decide (x0.module=(⟨[]⟩:Str))&&cmpI .eql x0.level 0)&&b8)&&cmpI .eql x0.value 0))
else(if cmpI .eql x0.kind 5 then(some (decide (x0=(⟨(5:Int),⟨[]⟩,0,⟨[]⟩,0⟩:Stmt))))
else(some false))))))
theorem zei{x0}(h:ZR x0=some r):Fn prog 94 [dt x0] (dt r):=by
 refine fq1 0 func94 λ M _ _ j=>?_
 refine j.z1 λ j=>?_
 refine j.z1 λ j=>?_
 refine j.zc h (λ j h=>?_) λ j h=>?_
 ·have⟨v6,p6,h⟩:=bs h
  exact j.ze h
 refine j.zc h (λ j h=>?_) λ j h=>?_
 ·have⟨b8,a8,h⟩:=bs h
  have⟨b9,a9,c8,b3,h⟩:=Ke h
  exact j.ze h (hs:=sZ 2 (r:=by exact sc Z (oK (Zw a8))<|sZ 3 (r:=by exact sg Z Z (λ hg=>oK (yM (gh hg a9)))<|sZ 5 (r:=by exact sg Z Z (λ hg=>oM Z V)<|sgg Z Z (λ hg=>zI Stmt.fld2 Z T)<|sgg Z Z (λ hg=>zH Z V)<|sgg Z Z (λ hg=>oCI Z V cI)<|sg Z Z (λ hg=>qm Z V (zd5 hg Z))<|sZ 4 (r:=by exact sg Z Z (λ hg=>oK (ZH (gh hg b3)))<|segZ)))))
 refine j.zc h (λ j h=>?_) λ j h=>?_
 ·have⟨d1,d2,h⟩:=bs h
  exact j.ze h
 refine j.zc h (λ j h=>?_) λ j h=>?_
 ·have⟨d3,b5,h⟩:=bs h
  have⟨d4,b6,h⟩:=bs h
  exact j.ze h (hs:=sZ 11 (r:=by exact sg Z Z (λ hg=>oK (ZH (gh hg b5)))<|sZ 4 (r:=by exact sg Z Z (λ hg=>oK (yM (gh hg b6)))<|segZ)))
 refine j.zc h (λ j h=>?_) λ j h=>?_
 ·have⟨d5,b7,h⟩:=bs h
  exact j.ze h (hs:=sZ 11 (r:=by exact sg Z Z (λ hg=>oK (ZH (gh hg b7)))<|segZ))
 refine j.zc h (λ j h=>?_) λ j h=>?_
 ·exact j.ze h (hs:=sZ 1 (r:=by exact sc Z (kD109_0 Z cI)<|sc Z (JS Z T T)<|segZ))
 exact j.ze h
instance:Ct1 prog 94 dt dt ZR:=⟨λ h=>zei h⟩
def wK(x0:List Stmt)(s4:Int):Option (Int⊕(Unit⊕Bool)):=
if(cmpI .lss s4 (x0.length:Int))=true then((atI x0 s4).bind λ v9=>
(ZR v9).bind λ a8=>
if(!a8)=true then(some (.inr (.inr false)))
else((i64 (s4+(1:Int))).bind λ a9=>
some (.inl a9)))
else(some (.inr (.inl ())))
def yX(x0:List Stmt):Option Bool:=
Option.bind (α:=Unit⊕Bool) (zE (λ s4=>wK x0 s4) (0:Int)) (Sum.elim (λ _b2=>
some (cmpI .leq (x0.length:Int) 8)) some)
theorem WR{x0}(h:yX x0=some r):Fn prog 59 [dt x0] (dt r):=by
 refine fq1 0 func59 λ M w0 _ j=>?_
 refine j.z1 (λ j=>za ?_)
 refine j.jb [0] (λ _=>[]) h (λ o2 p2 k2=>?_) λ b2 _ _ j h=>?_
 ·refine j.z1 λ j=>?_
  refine wql p2 (λ s4 a w=>Sx (Frm.of w0) 19 M M [] [(0,dt x0),(3,dt s4)] [] a w) (j.sel0 [0,3]) ?_
  rintro s4 z4 _ _ j hs4 hx4
  have h:wK x0 s4=some z4:=hs4
  unfold wK at h
  refine j.zc h (λ j h=>?_) λ j h=>?_
  ·have⟨v9,p9,h⟩:=bs h
   have⟨a8,a9,h⟩:=bs h
   refine j.zc h (λ j h=>?_) λ j h=>?_
   ·exact j.ze (jo (lo h hx4) k2)
   have⟨b3,b5,h⟩:=bs h
   exact j.zn [] h
  have h:=lo h hx4
  exact flz h
 exact j.ze h
instance:Ct1 prog 59 dt dt yX:=⟨λ h=>WR h⟩
def ZS(x0:File):Option Bool:=
(yt x0.root (0:Int) (2:Int)).bind λ v2=>
(gO ((!v2) == false) (yt x0.stamp (0:Int) (99:Int))).bind λ v3=>
(gO (((!v2)||(!v3)) == false) (yT x0.pkg)).bind λ v4=>
(gO ((((!v2)||(!v3))||(!v4)) == false) (yX x0.body)).bind λ v5=>
if((((!v2)||(!v3))||(!v4))||(!v5))=true then(some false)
else(if x0.init=true then(some (decide (x0.pkg≠(⟨[]⟩:Str))&&decide (x0.name=(⟨[]⟩:Str))))
else((wg x0.name).bind λ a8=>
(gO (a8 == true) (xZ x0.pkg x0.name)).bind λ a9=>
(gO (a8 == true) (yw a9)).bind λ b3=>
some (a8&&b3)))
theorem zej{x0}(h:ZS x0=some r):Fn prog 58 [dt x0] (dt r):=by
 refine fq1 0 func58 λ M _ _ j=>?_
 refine j.z1 λ j=>?_
 have⟨v2,p2,v3,p3,h⟩:=Ke h
 have⟨v4,p4,v5,p5,h⟩:=Ke h
 refine j.zc h (λ j h=>?_) (λ j h=>?_) (hs:=sZ 2 (r:=by exact sc Z (oK (yM p2))<|sZ 4 (r:=by exact sg Z Z (λ hg=>oK (yM (gh hg p3)))<|sZ 5 (r:=by exact sg Z Z (λ hg=>oK (Zw (gh hg p4)))<|sZ 5 (r:=by exact sg Z Z (λ hg=>oK (WR (gh hg p5)))<|segZ)))))
 ·exact j.ze h
 refine j.zc h (λ j h=>?_) λ j h=>?_
 ·exact j.ze h
 have⟨b5,a8,b6,a9,h⟩:=Ke h
 have⟨b7,b3,h⟩:=bs h
 exact j.ze h (hs:=sZ 2 (r:=by exact sc Z (oK (ZH a8))<|sZ 5 (r:=by exact sg Z Z (λ hg=>oK (Wf (gh hg a9)))<|sg Z Z (λ hg=>oK (WN (gh hg b3)))<|segZ)))
instance:Ct1 prog 58 dt dt ZS:=⟨λ h=>zej h⟩
def wL(x0:List GAct)(s4:Int):Option (Int⊕(Unit⊕Bool)):=
if(cmpI .lss s4 (x0.length:Int))=true then(Option.bind (α:=Unit⊕(Int⊕(Unit⊕Bool))) ((atI x0 s4).bind λ a8=>
if cmpI .eql a8.kind 0 then((ZS a8.file).bind λ a9=>
if(!a9)=true then(some (.inr (.inr (.inr false))))
else(some (.inl ())))
else(if cmpI .eql a8.kind 1 then(some (.inl ()))
else(if cmpI .eql a8.kind 2 then((yX a8.file.body).bind λ b3=>
if(!b3)=true then(some (.inr (.inr (.inr false))))
else(some (.inl ())))
else(if cmpI .eql a8.kind 3 then((yw a8.name).bind λ b5=>
if(!b5)=true then(some (.inr (.inr (.inr false))))
else(some (.inl ())))
else(some (.inr (.inr (.inr false)))))))) (Sum.elim (λ _b9=>
(i64 (s4+(1:Int))).bind λ b6=>
some (.inl b6)) some))
else(some (.inr (.inl ())))
def ZT(x0:List GAct):Option Bool:=
Option.bind (α:=Unit⊕Bool) (zE (λ s4=>wL x0 s4) (0:Int)) (Sum.elim (λ _b2=>
some (cmpI .leq (x0.length:Int) 20)) some)
theorem zab{x0}(h:ZT x0=some r):Fn prog 30 [dt x0] (dt r):=by
 refine fq1 1 func30 λ M w0 _ j=>?_
 refine j.z1 (λ j=>za ?_)
 refine j.jbq 1 [0] (λ _=>[]) (λ _ _=>[]) h (λ o2 p2 k2=>?_) λ b2 q2 _ _ _ j h=>?_
 ·refine j.z1 λ j=>?_
  refine wql p2 (λ s4 a w=>∃ M1 Q,Sx (Frm.of w0) 41 M M1 [oneB Q] [(0,dt x0),(3,dt s4)] [] a w) fx ?_
  rintro s4 z4 _ _ ⟨_,Q,j⟩ hs4 hx4
  have h:wL x0 s4=some z4:=hs4
  unfold wL at h
  refine j.zc h (λ j h=>?_) λ j h=>?_
  ·refine wqk<|za<|j.jbq 1 [0,3] (λ _=>[]) (λ _ _=>[]) h (λ o9 p9 k9=>?_) λ b9 q9 _ _ _ j h=>?_
   ·have⟨a8,a9,h⟩:=bs p9
    refine QY<|j.zg 4 λ j=>?_
    refine j.alA 0 zrGAct [0,3,14] [] λ b3 j=>?_
    refine j.stA 4 0 FldS.id (tp Z) [0,3] [] (λ j=>Wz ?_)
    refine j.zo [(4,0)] λ j=>?_
    refine j.zd [(4,0)] h (λ j h=>?_) λ j h=>?_
    ·have⟨b5,b6,h⟩:=bs h
     refine j.zc h (λ j h=>?_) λ j h=>?_
     ·exact j.ze (jo (lo (jo h k9) hx4) k2)
     exact flz h
    refine j.zd [(4,0)] h (λ j h=>?_) λ j h=>?_
    ·exact flz h
    refine j.zd [(4,0)] h (λ j h=>?_) λ j h=>?_
    ·have⟨b7,b8,h⟩:=bs h
     refine j.zc h (λ j h=>?_) λ j h=>?_
     ·exact j.ze (jo (lo (jo h k9) hx4) k2)
     exact flz h
    refine j.zd [(4,0)] h (λ j h=>?_) λ j h=>?_
    ·have⟨c8,d1,h⟩:=bs h
     refine j.zc h (λ j h=>?_) λ j h=>?_
     ·exact j.ze (jo (lo (jo h k9) hx4) k2)
     exact flz h
    exact j.ze (jo (lo (jo h k9) hx4) k2)
   have⟨d2,d3,h⟩:=bs h
   exact j.zn [] h
  have h:=lo h hx4
  exact flz h
 exact j.ze h
instance:Ct1 prog 30 dt dt ZT:=⟨λ h=>zab h⟩
def Wl:Option Disk:=
some (⟨je,0,[]⟩:Disk)
theorem zbl{r:Disk}(h:Wl=some r):Fn prog 33 [] (dt r):=by
 refine fq1 1 func33 λ M _ _ j=>?_
 refine QY<|j.alA 0 Zh [] [] (λ b2 j=>Wz ?_)
 refine QY<|j.zh 1 [(0,0)] (λ j=>?_) (hs:=sc Z (yf (parts:=[]) (ns:=[1,1,1]) (zs:=ZC) Z Z (λ w a hl=>by simp) (λ w a hl=>Disk.parts (x:=(⟨je,0,[]⟩:Disk)) (xI _ _) ⟨Z,trivial⟩ yA))<|.nil)
 refine j.stA 0 0 FldS.id (tp Z) [] [] (λ j=>Wz ?_)
 exact j.yB h
instance:Ct0 prog 33  dt Wl:=⟨λ h=>zbl h⟩
def jG(x0:File):Option File:=
(appO 56 [] x0.body).bind λ v7=>
some ({ x0 with body:=v7 })
theorem Jw{x0 r}(h:jG x0=some r):Fn prog 96 [dt x0] (dt r):=by
 refine fq1 3 func96 λ M _ _ j=>?_
 refine QY<|j.boxD 1 Z Z T [] Z [] Z Z λ b1 _ _ _ j=>?_
 refine j.alA 2 Js [] [1] (λ b3 j=>Wz ?_)
 refine QY<|j.zh 3 [(1,1),(2,2),(3,0)] (λ j=>?_) (hs:=sc Z (xt (α:=Stmt) (e:=109) Z)<|segZ)
 have⟨v7,p7,h⟩:=bs h
 refine j.apA 0 yI p7 [] [1,2] λ g6 j=>?_
 refine j.zh 1 [(1,1),(2,2),(6,0),(7,1)] λ j=>?_
 have j:=j.frz 0 (s:=6) Z Z [] Z [1,2,7] Z
 refine j.stA 1 1 File.set5 (tp Z) [] [2] (λ j=>Wz ?_)
 refine QY<|j.zh 1 [(2,2)] λ j=>?_
 refine j.stA 2 2 FldS.id (tp Z) [] [] (λ j=>Wz ?_)
 exact j.yB h
instance:Ct1 prog 96 dt dt jG:=⟨λ h=>Jw h⟩
def qJ(x0:List Dir)(x1:Int)(x2:Str)(s4:Int):Option (Int⊕(Unit⊕Int)):=
if(cmpI .lss s4 (x0.length:Int))=true then((atI x0 s4).bind λ v9=>
(gO (cmpI .eql v9.root x1 == true) (atI x0 s4)).bind λ a8=>
if(cmpI .eql v9.root x1&&decide (a8.pkg=x2))=true then(some (.inr (.inr s4)))
else((i64 (s4+(1:Int))).bind λ a9=>
some (.inl a9)))
else(some (.inr (.inl ())))
def qY(x0:List Dir)(x1:Int)(x2:Str):Option Int:=
Option.bind (α:=Unit⊕Int) (zE (λ s4=>qJ x0 x1 x2 s4) (0:Int)) (Sum.elim (λ _b2=>
some (-1:Int)) some)
theorem JL{x0 x2 r}(h:qY x0 x1 x2=some r):Fn prog 201 [dt x0,dt x1,dt x2] (dt r):=by
 refine fq1 0 func201 λ M w0 _ j=>?_
 refine j.z1 (λ j=>za ?_)
 refine j.jb [] (λ _=>[]) h (λ o2 p2 k2=>?_) λ b2 _ _ j h=>?_
 ·refine j.z1 λ j=>?_
  refine wql p2 (λ s4 a w=>Sx (Frm.of w0) 31 M M [] [(0,dt x0),(1,dt x1),(2,dt x2),(7,dt s4)] [] a w) (j.sel0 [0,1,2,7]) ?_
  rintro s4 z4 _ _ j hs4 hx4
  have h:qJ x0 x1 x2 s4=some z4:=hs4
  unfold qJ at h
  refine j.zc h (λ j h=>?_) λ j h=>?_
  ·have⟨v9,p9,h⟩:=bs h
   have⟨a8,a9,h⟩:=bs h
   refine j.zc h (λ j h=>?_) λ j h=>?_
   ·exact j.ze (jo (lo h hx4) k2)
   have⟨b3,b5,h⟩:=bs h
   exact j.zn [] h
  have h:=lo h hx4
  exact flz h
 exact j.ze h
instance:Ct3 prog 201 dt dt dt dt qY:=⟨λ h=>JL h⟩
def wM(x0:List Dir)(s4:Int):Option (Int⊕(Unit⊕Bool)):=
if(cmpI .lss s4 (x0.length:Int))=true then((atI x0 s4).bind λ v9=>
(yt v9.root (0:Int) (2:Int)).bind λ a8=>
(gO ((!a8) == false) (atI x0 s4)).bind λ b6=>
(gO ((!a8) == false) (yT b6.pkg)).bind λ a9=>
(gO (((!a8)||(!a9)) == false) (atI x0 s4)).bind λ b7=>
(gO (((!a8)||(!a9)) == false) (yt b7.stamp (0:Int) (200:Int))).bind λ b3=>
(gO ((((!a8)||(!a9))||(!b3)) == false) (atI x0 s4)).bind λ b8=>
(gO ((((!a8)||(!a9))||(!b3)) == false) (atI x0 s4)).bind λ b9=>
(gO ((((!a8)||(!a9))||(!b3)) == false) (qY x0 b8.root b9.pkg)).bind λ b5=>
(gO (((((!a8)||(!a9))||(!b3))||cmpI .lss b5 s4) == false) (atI x0 s4)).bind λ c8=>
if(((((!a8)||(!a9))||(!b3))||cmpI .lss b5 s4)||cmpI .gtr (c8.names.length:Int) 12)=true then(some (.inr (.inr false)))
else((i64 (s4+(1:Int))).bind λ d1=>
some (.inl d1)))
else(some (.inr (.inl ())))
def ZU(x0:List Dir):Option Bool:=
Option.bind (α:=Unit⊕Bool) (zE (λ s4=>wM x0 s4) (0:Int)) (Sum.elim (λ _b2=>
some (cmpI .leq (x0.length:Int) 20)) some)
theorem zac{x0}(h:ZU x0=some r):Fn prog 180 [dt x0] (dt r):=by
 refine fq1 0 func180 λ M w0 _ j=>?_
 refine j.z1 (λ j=>za ?_)
 refine j.jb [0] (λ _=>[]) h (λ o2 p2 k2=>?_) λ b2 _ _ j h=>?_
 ·refine j.z1 λ j=>?_
  refine wql p2 (λ s4 a w=>Sx (Frm.of w0) 63 M M [] [(0,dt x0),(3,dt s4)] [] a w) (j.sel0 [0,3]) ?_
  rintro s4 z4 _ _ j hs4 hx4
  have h:wM x0 s4=some z4:=hs4
  unfold wM at h
  refine j.zc h (λ j h=>?_) λ j h=>?_
  ·have⟨v9,p9,h⟩:=bs h
   have⟨d1,a8,d2,a9,h⟩:=Ke h
   have⟨d3,b3,d4,b5,h⟩:=Ke h
   have⟨d5,b6,d6,b7,h⟩:=Ke h
   have⟨d7,b8,e0,b9,h⟩:=Ke h
   have⟨e3,c8,h⟩:=bs h
   refine j.zw (λ j=>?_) (hs:=sV 5 (r:=by exact sw Z (zA (l:=[.tmp 14,.const (.int .i64 0),.const (.int .i64 2)]) Z (.cons T (.cons cI (.cons cI .nil))) (yM a8))<|sV 4 (r:=by exact swg Z Z (λ hg=>xIdx Z V V (gh hg a9))<|sV 2 (r:=by exact swg Z Z (λ hg=>zA (l:=[.tmp 22]) Z (.cons V .nil) (Zw (gh hg b3)))<|sV 1 (r:=by exact sw Z (qm Z T T)<|sV 3 (r:=by exact swg Z Z (λ hg=>xIdx Z V V (gh hg b5))<|sV 2 (r:=by exact swg Z Z (λ hg=>zA (l:=[.tmp 31,.const (.int .i64 0),.const (.int .i64 200)]) Z (.cons V (.cons cI (.cons cI .nil))) (yM (gh hg b6)))<|sV 1 (r:=by exact sw Z (qm Z T T)<|sV 4 (r:=by exact swg Z Z (λ hg=>xIdx Z V V (gh hg b7))<|sV 4 (r:=by exact swg Z Z (λ hg=>xIdx Z V V (gh hg b8))<|sV 2 (r:=by exact swg Z Z (λ hg=>zA (l:=[.tmp 36,.tmp 41,.tmp 46]) Z (.cons V (.cons V (.cons V .nil))) (JL (gh hg b9)))<|sV 1 (r:=by exact swg Z Z (λ hg=>oCI Z V V)<|sw Z (qm Z T T)<|sV 3 (r:=by exact swg Z Z (λ hg=>xIdx Z V V (gh hg c8))<|sV 3 (r:=by exact swg Z Z (λ hg=>oCI Z V cI)<|sw Z (qm Z T T)<|.nil))))))))))))))
   refine j.cq h (λ h=>?_) λ h=>?_
   ·exact j.ze (jo (lo h hx4) k2)
   have⟨e4,e5,h⟩:=bs h
   exact j.zn [] h
  have h:=lo h hx4
  exact flz h
 exact j.ze h
instance:Ct1 prog 180 dt dt ZU:=⟨λ h=>zac h⟩
def wN(x0:Disk)(s4:Int):Option (Int⊕(Unit⊕Bool)):=
if(cmpI .lss s4 (x0.dirs.length:Int))=true then((atI x0.dirs s4).bind λ v9=>
(gO (cmpI .gtr v9.stamp x0.clock == false) (atI x0.dirs s4)).bind λ a8=>
if(cmpI .gtr v9.stamp x0.clock||cmpI .gtr (a8.names.length:Int) 0)=true then(some (.inr (.inr false)))
else((i64 (s4+(1:Int))).bind λ a9=>
some (.inl a9)))
else(some (.inr (.inl ())))
def w8(x0:Disk):Option Bool:=
Option.bind (α:=Unit⊕Bool) (zE (λ s4=>wN x0 s4) (0:Int)) (Sum.elim (λ _b2=>
(yn x0.tree).bind λ a8=>
(gO (a8 == true) (yt x0.clock (0:Int) (200:Int))).bind λ a9=>
(gO ((a8&&a9) == true) (ZU x0.dirs)).bind λ b3=>
some ((a8&&a9)&&b3)) some)
theorem Xe(h:w8 x0=some r):Fn prog 141 [dt x0] (dt r):=by
 refine fq1 0 func141 λ M w0 _ j=>?_
 refine j.z1 (λ j=>za ?_)
 refine j.jb [1] (λ _=>[]) h (λ o2 p2 k2=>?_) λ b2 _ _ j h=>?_
 ·refine j.z1 λ j=>?_
  refine wql p2 (λ s4 a w=>Sx (Frm.of w0) 43 M M [] [(1,dptr x0),(3,dt s4)] [] a w) (j.sel0 [1,3]) ?_
  rintro s4 z4 _ _ j hs4 hx4
  have h:wN x0 s4=some z4:=hs4
  unfold wN at h
  refine j.zc h (λ j h=>?_) λ j h=>?_
  ·have⟨v9,p9,h⟩:=bs h
   have⟨b5,b6,h⟩:=bs h
   refine j.zw λ j=>?_
   refine j.cq h (λ h=>?_) λ h=>?_
   ·exact j.ze (jo (lo h hx4) k2)
   have⟨b7,b8,h⟩:=bs h
   exact j.zn [] h
  have h:=lo h hx4
  exact flz h
 have⟨b9,a8,c8,a9,h⟩:=Ke h
 have⟨d1,b3,h⟩:=bs h
 exact j.ze h (hs:=sZ 2 (r:=by exact sc Z (oK (jX a8))<|sZ 3 (r:=by exact sg Z Z (λ hg=>oK (yM (gh hg a9)))<|sZ 4 (r:=by exact sg Z Z (λ hg=>oK (zac (gh hg b3)))<|segZ))))
instance:Ct1 prog 141 dt dt w8:=⟨λ h=>Xe h⟩
def ja(x0:Tree)(a8:Tree×Int):Option ((Tree×Int)⊕Tree):=
if(cmpI .lss a8.2 (x0.files.length:Int))=true then((atI x0.files a8.2).bind λ a9=>
(jG a9).bind λ b3=>
(appO 80 a8.1.files ([b3]:List File)).bind λ b5=>
(i64 (a8.2+(1:Int))).bind λ b6=>
some (.inl ((⟨b5⟩:Tree),b6)))
else(some (.inr a8.1))
def qK(x0:Tree):Option Tree:=
Option.bind (α:=Tree) (zE (λ a8=>ja x0 a8) ((⟨[]⟩:Tree),(0:Int))) λ a9=>
some a9
theorem Jx{x0 r}(h:qK x0=some r):FnN prog 146 [dt x0] (.ow (owTree (Ow.row 45 (Ow.frz (α:=File)))) r):=by
 refine fnN (fn:=f146) 4 func146 Z Z (λ M w0 _ j=>wqw ?_)
 refine QY<|j.zg 1 λ j=>?_
 refine j.alcW (ow:=(owTree (Ow.row 45 (Ow.frz (α:=File))))) 2 (owTree.z Ow.row_z) [1] [] λ b2 _ _ _ j=>?_
 refine Wz<|QY<|j.bldW (ow:=(owTree (Ow.row 45 (Ow.frz (α:=File))))) (parts:=[]) (ns:=[1]) (zs:=J6) (x:=(⟨[]⟩:Tree)) 0 [] (by simp) (((owTree (Ow.row 45 (Ow.frz (α:=File))))).more (owTree.mk (x:=(⟨[]⟩:Tree)) (Ow.row_z _ _)) (λ b=>(λ hb=>hb.elim))) [1] [2] @λ G4 _ _ j=>?_
 have j:=j.gs (Gs':=[G4,oneB none,(oneB (some b2)),oneB none])
 have j:=j.gs (Gs':=[G4,oneB none,(oneB (some b2)),oneB none])
 refine j.alcW (ow:=(owTree (Ow.row 45 (Ow.frz (α:=File))))) 3 (owTree.z Ow.row_z) [1] [2,5] λ b7 _ _ _ j=>?_
 refine j.stO (sb:=3) (tv:=5) 3 0 Pb (zt Z) [1] [2] λ j=>?_
 refine Wz<|za ?_
 have⟨b5,b6,b8⟩:=bs h
 refine wqj (λ a w=>∃ M1 Q R W X,Sx (Frm.of w0) 25 M M1 [Q,R,W,X] [] [(2,2,dow (Ow.box (owTree (Ow.row 45 (Ow.frz (α:=File))))) W ⟨je⟩),(3,3,dow (Ow.box (owTree (Ow.row 45 (Ow.frz (α:=File))))) X ⟨b5⟩)] a w) ?_ ?_
 ·refine j.zo [(2,2),(3,3)] λ j=>?_
  have j:=j.unm (s:=2) 2 [3]
  have j:=j.unm (s:=3) 3 [2]
  refine wql b6 (λ a8 a w=>∃ M1 Q R W X,Sx (Frm.of w0) 25 M M1 [Q,R,W,X] [(1,dptr x0),(4,dt a8.2)] [(2,2,dow (Ow.box (owTree (Ow.row 45 (Ow.frz (α:=File))))) W ⟨je⟩),(3,3,dow (Ow.box (owTree (Ow.row 45 (Ow.frz (α:=File))))) X ⟨a8.1⟩)] a w) fx ?_
  rintro a8 b9 _ _ ⟨_,Q,R,W,X,j⟩ a9 b3
  have h:ja x0 a8=some b9:=a9
  unfold ja at h
  refine j.zd [(2,2),(3,3)] h (λ j h=>?_) λ j h=>?_
  ·have⟨d3,d4,h⟩:=bs h
   have⟨d5,c8,h⟩:=bs h
   refine j.nmB (s:=3) 3 [2] λ d6 j=>?_
   refine j.hdA 3 3 (Pb.fld owTree.f0) [2] λ d7 e0 _ d1 j=>?_
   refine j.zu 9 [(2,2),(3,3)] (λ j=>?_) (hs:=sw Z (xFa Z qr U)<|sw Z (xLc (sb:=3) (.head _) Z Z Z T Z)<|sV 5 (r:=by exact sw Z (zA (l:=[.tmp 19]) Z (.cons T .nil) (Jw c8))<|sw Z (xH (opds:=[.tmp 20]) Z Z Z (.cons T .nil))<|.nil))
   refine j.mvG (s:=14) (sb:=3) 3 1 (Pb.fld owTree.f0) (.head _) (zT Z Z) [1,4,21] [2] λ j=>?_
   refine j.tipR (s:=14) 1 (by first | (simp;done) | exact oD rfl) [2,3] λ e3 j=>?_
   have⟨e4,d2,h⟩:=bs h
   refine j.apA 1 yI d2 [1,4] [2,3] λ e5 j=>?_
   refine j.zh 1 [(2,2),(3,3),(22,1)] (λ j=>?_) (hs:=sc Z (xFa Z qr (zbc Z))<|.nil)
   have j:=j.tipW (s:=22) 1 [2,3]
   refine j.shA 3 22 3 1 (tp Z) [1,4] [2] λ j=>?_
   have⟨e6,e7,h⟩:=bs h
   refine Wz<|j.zo [(2,2),(3,3)] λ j=>?_
   have j:=j.unm (s:=3) 3 [2]
   exact flz h
  have h:=lo h b3
  cases h
  exact fz
 rintro _ _ ⟨_,Q,R,W,X,j⟩
 have h:=b8
 refine QY<|j.nmB (s:=3) 3 [2] λ e8 j=>?_
 refine j.ldW (sb:=3) 3 [] [2] λ j=>?_
 refine j.nmB (s:=2) 2 [24] λ e9 j=>?_
 refine j.stO (sb:=2) (tv:=24) 2 3 Pb (zt Z) [] [] λ j=>?_
 exact Wz<|j.rnC 2 h
def qz(x0:Tree)(x1:File):Option (Tree×Bool):=
(qK x0).bind λ v8=>
(jG x1).bind λ b3=>
(appO 80 v8.files ([b3]:List File)).bind λ a8=>
(yn x0).bind λ a9=>
(gO ((!a9) == false) (yn (⟨a8⟩:Tree))).bind λ b5=>
if((!a9)||(!b5))=true then(some ((⟨[]⟩:Tree),false))
else(some ((⟨a8⟩:Tree),true))
theorem zbm{x0 x1 r}(h:qz x0 x1=some r):Fn prog 142 [dt x0,dt x1] (dtup [dt r.1,dt r.2]):=by
 refine fq1 4 func142 λ M _ _ j=>?_
 refine QY<|j.zg 2 λ j=>?_
 refine j.alA 2 xI [2,3] [] λ b3 j=>?_
 refine j.zh 1 [(4,2)] (λ j=>Wz ?_)
 refine QY<|j.zh 1 [(4,2)] λ j=>?_
 have⟨v8,p8,h⟩:=bs h
 refine j.cN (l:=[.tmp 7]) 0 (.cons T .nil) (Jx p8) [2,3] [4] λ j=>?_
 refine j.alcW (ow:=(owTree (Ow.row 45 (Ow.frz (α:=File))))) 3 (owTree.z Ow.row_z) [2,3] [4,8] λ b8 _ _ _ j=>?_
 refine j.stO (sb:=6) (tv:=8) 3 0 Pb (zt Z) [2,3] [4] λ j=>?_
 have⟨b9,a8,h⟩:=bs h
 refine Wz<|j.hdA 6 3 (Pb.fld owTree.f0) [4] λ c8 d1 _ a9 j=>?_
 refine j.zu 5 [(4,2),(6,3)] (λ j=>?_) (hs:=sw Z (xFa Z qr U)<|sw Z (xLc (sb:=6) (.head _) Z Z Z T Z)<|sV 1 (r:=by exact sw Z (zA (l:=[.tmp 11]) Z (.cons T .nil) (Jw a8))<|sw Z (xH (opds:=[.tmp 12]) Z Z Z (.cons T .nil))<|.nil))
 refine j.mvG (s:=10) (sb:=6) 3 1 (Pb.fld owTree.f0) (.head _) (zT Z Z) [2,13] [4] λ j=>?_
 refine j.tipR (s:=10) 1 (by first | (simp;done) | exact oD rfl) [4,6] λ d2 j=>?_
 have⟨d3,b5,h⟩:=bs h
 refine j.apA 1 yI b5 [2] [4,6] λ d4 j=>?_
 refine j.zh 1 [(4,2),(6,3),(14,1)] (λ j=>?_) (hs:=sc Z (xFa Z qr (zbc Z))<|.nil)
 have j:=j.tipW (s:=14) 1 [4,6]
 refine j.shA 6 14 3 1 (tp Z) [2] [4] λ j=>?_
 have j:=j.unm (s:=6) 3 [4]
 have j:=j.frzB (s:=6) 3 [2] [4]
 have⟨d5,b6,d6,b7,h⟩:=Ke h
 refine Wz<|j.zd [(4,2)] h (λ j h=>?_) (λ j h=>?_) (hs:=sZ 1 (r:=by exact sc Z (oK (jX b6))<|sZ 3 (r:=by exact sg Z Z (λ hg=>oK (jX (gh hg b7)))<|segZ)))
 ·refine QY<|j.zh 1 [(4,2)] (λ j=>?_) (hs:=sc Z (yf (parts:=[]) (ns:=[1]) (zs:=J6) Z Z (λ w a hl=>by simp) (λ w a hl=>Tree.parts (x:=(⟨[]⟩:Tree)) yA))<|.nil)
  refine j.stA 4 2 FldS.id (tp Z) [] [] λ j=>?_
  refine j.zh 1 [(4,2)] (λ j=>Wz ?_)
  cases h
  exact j.y2
 refine QY<|j.zh 1 [(4,2)] λ j=>?_
 refine j.stA 4 2 FldS.id (tp Z) [] [] λ j=>?_
 refine j.zh 1 [(4,2)] (λ j=>Wz ?_)
 cases h
 exact j.y2
instance:Ct2 prog 142 dt dt (λ r=>dtup [dt r.1,dt r.2]) qz:=⟨λ h=>zbm h⟩
def jc(x0:List Dir)(s5:(List Dir)×Int):Option (((List Dir)×Int)⊕(List Dir)):=
if(cmpI .lss s5.2 (x0.length:Int))=true then((atI x0 s5.2).bind λ a8=>
(appO 16 [] a8.names).bind λ a9=>
(appO 56 s5.1 ([{ a8 with names:=a9 }]:List Dir)).bind λ b3=>
(i64 (s5.2+(1:Int))).bind λ b5=>
some (.inl (b3,b5)))
else(some (.inr s5.1))
def Yh(x0:List Dir):Option (List Dir):=
Option.bind (α:=(List Dir)) (zE (λ s5=>jc x0 s5) ([],(0:Int))) λ o3=>
some o3
theorem Jy{x0 r}(h:Yh x0=some r):FnOwn prog 100 [dt x0] 166 r:=by
 refine fqO 3 func100 λ M w0 _ j=>?_
 refine j.z1 (λ j=>?_) (hs:=sc Z (oA Z (jE (α:=Dir) (e:=166)))<|.nil)
 refine j.zo [(3,0)] (λ j=>?_) (hs:=sc Z (xt (α:=Dir) (e:=166) Z)<|segZ)
 refine za<|j.jmq 3 [] (λ _=>[]) (λ o3 q=>[(3,0,dtip (q 0) 166 o3)]) h (λ o3 p3=>?_) λ o3 q3 _ _ _ j h=>?_
 ·refine j.zo [(3,0)] λ j=>?_
  refine wql p3 (λ s5 a w=>∃ M1 Q R W,Sx (Frm.of w0) 27 M M1 [oneB Q,oneB R,oneB W] [(0,dt x0),(4,dt s5.2)] [(3,0,dtip Q 166 s5.1)] a w) fx ?_
  rintro s5 z5 _ _ ⟨_,Q,R,W,j⟩ hs5 hx5
  have h:jc x0 s5=some z5:=hs5
  unfold jc at h
  refine j.zd [(3,0)] h (λ j h=>?_) λ j h=>?_
  ·have⟨b3,b5,h⟩:=bs h
   refine QY<|j.zh 4 [(3,0)] λ j=>?_
   refine j.alA 2 zrDir [0,4,16] [3] λ b6 j=>?_
   refine j.stA 5 2 FldS.id (tp Z) [0,4] [3] (λ j=>Wz ?_)
   have j:=j.rst 1 [0,4] [3,5]
   refine QY<|j.zh 3 [(3,0),(5,2),(17,1)] (λ j=>?_) (hs:=sc Z (xt (α:=Str) (e:=9) Z (ht':=WC))<|segZ)
   have⟨b7,a8,h⟩:=bs h
   refine j.apA 1 yI a8 [0,4] [3,5] λ b8 j=>?_
   refine j.zh 1 [(3,0),(5,2),(20,1),(21,2)] λ j=>?_
   have j:=j.frz 1 (s:=20) Z Z [0,4] Z [3,5,21] Z
   refine j.stA 5 2 Dir.set3 (tp Z) [0,4] [3] (λ j=>Wz ?_)
   refine QY<|j.zh 3 [(3,0),(22,0)] λ j=>?_
   have⟨b9,a9,h⟩:=bs h
   refine j.apA 0 yI a9 [0,4] [] λ c8 j=>?_
   refine j.zh 1 [(3,0)] (λ j=>Wz ?_)
   have⟨d1,d2,h⟩:=bs h
   exact j.zn [(3,0)] h
  have h:=lo h hx5
  cases h
  exact fz
 exact j.zl 0 h
def yC(x1:Int)(o9:(List Str))(a8:Disk×Int):Option ((Disk×Int)⊕Disk):=
if(cmpI .lss a8.2 (o9.length:Int))=true then(Option.bind (α:=Disk) ((atI o9 a8.2).bind λ b3=>
(qY a8.1.dirs x1 b3).bind λ a9=>
if cmpI .lss a9 0 then((atI o9 a8.2).bind λ b5=>
(appO 56 a8.1.dirs ([(⟨x1,b5,a8.1.clock,[]⟩:Dir)]:List Dir)).bind λ b6=>
some ({ a8.1 with dirs:=b6 }))
else((atI a8.1.dirs a9).bind λ b7=>
some ({ a8.1 with dirs:=(a8.1.dirs.set a9.toNat ({ b7 with stamp:=a8.1.clock })) }))) λ b8=>
(i64 (a8.2+(1:Int))).bind λ b9=>
some (.inl (b8,b9)))
else(some (.inr a8.1))
def ZV(x0:Disk)(x1:Int)(x2:Str):Option Disk:=
Option.bind (α:=(List Str)) (if(decide (x2≠(⟨[]⟩:Str)))=true then((qR x2).bind λ a8=>
(appO 16 [(⟨[]⟩:Str)] a8).bind λ a9=>
some a9)
else(some [(⟨[]⟩:Str)])) λ o9=>
Option.bind (α:=Disk) (zE (λ b3=>yC x1 o9 b3) (x0,(0:Int))) λ b5=>
some b5
theorem zfs{x2 r}(h:ZV x0 x1 x2=some r):FnT prog 181 (owDisk (Ow.frz (α:=Tree)) oDs) x0 [dt x1,dt x2] (.ow (owDisk (Ow.frz (α:=Tree)) oDs) r):=by
 unfold ZV at h
 refine fnT (fn:=f181) 0 6 func181 Z Z (λ M G w0 _ j=>Ka ?_)
 refine QY<|j.boxW 1 0 [1,2] [] λ b1 G1 M1 _ _ j=>?_
 refine j.alcW (ow:=(owDisk (Ow.frz (α:=Tree)) oDs)) 5 (owDisk.z xI Ow.row_z) [1,2] [3] λ b3 _ _ _ j=>?_
 refine Wz<|za<|Ka<|QY<|j.litW (oe:=(Ow.frz (α:=Str))) (opds:=[_]) (xs:=[(⟨[]⟩:Str)]) 2 [] kI101 kY101 (Jl (oe:=(Ow.frz (α:=Str))) (G1:=noB) (OpdR.cells (yS) (λ s y hs=>j.st.has s y hs)) (λ _ h=>h.elim)) (λ q hq=>by
 simp only[am,aS,ch] at hq
 subst hq
 exact Rep.len (OpdR.cells (yS) (λ s y hs=>j.st.has s y hs))) [1,2] [3,6] (@λ G5 _ _ _ j=>?_)
 have j:=j.gs (Gs':=[oneB none,G1,G5,oneB none,oneB none,(oneB (some b3))])
 refine j.nmR (s:=10) 2 [3,6] λ g7 A7 _ hA7 j=>?_
 refine j.segA 1 [1,2] [(3,1),(6,5),(7,2)] (λ j=>Wz ?_)
 have⟨o9,p9,k9⟩:=bs h
 refine za<|XW (λ a w=>∃ M1 Q R W X Y A,Sx (Frm.chg w0 G) 54 M M1 [Q,R,W,X,Y,A] [(1,dt x1)] [(3,1,dow (Ow.box (owDisk (Ow.frz (α:=Tree)) oDs)) R ⟨x0⟩),(6,5,dow (Ow.box (owDisk (Ow.frz (α:=Tree)) oDs)) A ⟨xB⟩),(7,2,dow oSs W o9)] a w) ?_ ?_
 ·refine j.sqA [1,2,12] [(3,1),(6,5),(7,2)] λ j=>?_
  refine j.cs p9 (λ _ h=>?_) λ _ h=>?_
  ·refine QY ?_
   obtain⟨e8,e9,h⟩:=bsW h zdq
   refine j.segA 3 [1,15] [(3,1),(6,5),(7,2),(13,2)] λ j=>?_
   have j:=j.unm (s:=13) 2 [3,6]
   refine j.tipR (s:=13) 2 (by first | (simp;done) | exact oD rfl) [3,6] λ f9 j=>?_
   have⟨g0,d1,h⟩:=bs h
   refine j.apA 2 yI d1 [1] [3,6] λ g3 j=>?_
   refine j.segA 1 [1] [(3,1),(6,5),(7,2)] (λ j=>Wz ?_)
   have j:=j.unm (s:=3) 1 [6,7]
   have j:=j.unm (s:=6) 5 [3,7]
   have j:=j.tipW (s:=7) 2 [3,6]
   refine za ?_
   cases h
   exact fx
  have j:=j.unm (s:=3) 1 [6,7]
  have j:=j.unm (s:=6) 5 [3,7]
  have j:=j.unm (s:=7) 2 [3,6]
  refine aC<|za ?_
  cases h
  exact fx
 rintro _ _ ⟨_,Q,R,W,X,Y,A,j⟩
 have h:=k9
 have⟨d2,d3,d4⟩:=bs h
 refine XW (λ a w=>∃ M1 Q R W X Y A,Sx (Frm.chg w0 G) 54 M M1 [Q,R,W,X,Y,A] [] [(3,1,dow (Ow.box (owDisk (Ow.frz (α:=Tree)) oDs)) R ⟨d2⟩),(6,5,dow (Ow.box (owDisk (Ow.frz (α:=Tree)) oDs)) A ⟨xB⟩)] a w) ?_ ?_
 ·refine j.sqA [1,8] [(3,1),(6,5),(7,2)] (λ j=>aT ?_)
  refine zaq d3 (λ a9 a w=>∃ M1 Q R W X Y A,Sx (Frm.chg w0 G) 54 M M1 [Q,R,W,X,Y,A] [(1,dt x1),(8,dt a9.2)] [(3,1,dow (Ow.box (owDisk (Ow.frz (α:=Tree)) oDs)) R ⟨a9.1⟩),(6,5,dow (Ow.box (owDisk (Ow.frz (α:=Tree)) oDs)) A ⟨xB⟩),(7,2,dow oSs W o9)] a w) fx ?_
  rintro a9 d5 _ _ ⟨_,Q,R,W,X,Y,A,j⟩ b6 b7
  have h:yC x1 o9 a9=some d5:=b6
  unfold yC at h
  refine Ka<|j.nmR (s:=7) 2 [3,6] λ g4 g5 _ a8 j=>?_
  refine j.sqB (sc Z (oM Z T)<|
    sc Z (oM Z T)<|
    sc Z (xLeN Z kL101 Z)<|
    sc Z (oCI Z T T)<|.nil) [1,8,20] [(3,1),(6,5),(7,2)] (λ j=>?_)
  refine j.cs h (λ _ h=>?_) λ _ h=>?_
  ·have⟨d6,d7,e0⟩:=bs h
   refine aC<|za<|XW (λ a w=>∃ M1 Q R W X Y A,Sx (Frm.chg w0 G) 54 M M1 [Q,R,W,X,Y,A] [(1,dt x1),(8,dt a9.2)] [(3,1,dow (Ow.box (owDisk (Ow.frz (α:=Tree)) oDs)) R ⟨d6⟩),(6,5,dow (Ow.box (owDisk (Ow.frz (α:=Tree)) oDs)) A ⟨xB⟩),(7,2,dow oSs W o9)] a w) ?_ ?_
   ·have⟨g6,b8,h⟩:=bs d7
    have⟨g8,e3,h⟩:=bs h
    refine aT<|Ka<|j.nmB (s:=3) 1 [6,7] λ g9 j=>?_
    refine j.hdA 3 1 (Pb.fld owDisk.f2) [6,7] λ h0 h1 _ e4 j=>?_
    refine j.drA (D:=[_,_,_,_,_,_,_,_,_]) zN [[(3,nS)],[(23,0),(3,nS)],[(1,nS)],[(7,nS)],[(8,nS)],[(26,3),(27,4)],[(28,5),(7,nS)],[(24,1),(25,2),(29,6),(3,nS)],[(30,7)]] [1,8,9] [(3,1),(6,5),(7,2)] (λ j=>?_) (hs:=rc Z Z (xFa Z Wi U)<|
      rc Z Z (xLc (sb:=3) (.head _) Z Z Z T Z)<|
      rc Z Z (oM Z T)<|
      rc Z Z (oM Z T)<|
      rc Z Z (oM Z T)<|
      rc Z Z (xIaN Z WC Z T a8 b8)<|
      rc Z Z (xLf (sb:=7) (PV.root.row Z a8 b8) Z T Z)<|
      rc Z Z (yV (l:=[.tmp 24,.tmp 25,.tmp 29]) j.ob.sub Z (.cons (zaL (sb:=3) j.ob 1 (Pb.fld owDisk.f2) (.head _) Z (zT Z Z) T Z) (.cons (xf j.ob.sub T) (.cons (xf j.ob.sub T) .nil))) (JL e3) jK)<|
      rc Z Z (oA Z T)<|.nil)
    have j:=j.ncf (s:=3) 1 [6,7]
    refine za<|j.sqA [1,8,9,32] [(3,1),(6,5),(7,2)] λ j=>?_
    refine j.cs h (λ _ h=>?_) λ _ h=>?_
    ·have⟨h2,b9,h⟩:=bs h
     refine j.hdA 3 1 (Pb.fld owDisk.f2) [6,7] λ h3 h4 _ e5 j=>?_
     refine j.drnA (D:=[_,_,_,_,_,_,_,_,_,_,_]) zN 11 [[(3,nS)],[(33,0),(3,nS)],[(1,nS)],[(7,nS)],[(8,nS)],[(36,3),(37,4)],[(38,5),(7,nS)],[(3,nS)],[(40,7),(3,nS)],[(35,2),(39,6),(41,8)],[(42,9)],[(34,1),(43,10)],[(3,nS)],[(45,12),(44,11)]] [1,8,34,43] [(3,1),(6,5),(7,2)] (λ _ _ j=>?_) (hs:=rc Z Z (xFa Z Wi U)<|
       rc Z Z (xLc (sb:=3) (.head _) Z Z Z T Z)<|
       rc Z Z (oM Z T)<|
       rc Z Z (oM Z T)<|
       rc Z Z (oM Z T)<|
       rc Z Z (xIaN Z WC Z T a8 b9)<|
       rc Z Z (xLf (sb:=7) (PV.root.row Z a8 b9) Z T Z)<|
       rc Z Z (xFa Z zbj U)<|
       rc Z Z (xLf (sb:=3) (Pb.fld owDisk.f1) Z T Z)<|
       rc Z Z (kD166_0_1_2 Z T T T)<|
       rc Z Z (xH (opds:=[.tmp 42]) Z Z Z (.cons T .nil))<|.nil)
     refine j.mvG (s:=34) (sb:=3) 1 3 (Pb.fld owDisk.f2) (.head _) (zT Z Z) [1,8,43] [6,7] λ j=>?_
     refine j.tipR (s:=34) 3 (by first | (simp;done) | exact oD rfl) [3,6,7] λ h5 j=>?_
     have⟨h6,e6,h⟩:=bs h
     refine j.apA 3 yI e6 [1,8] [3,6,7] λ h7 j=>?_
     refine j.segB 1 (sc Z (xFa Z Wi (zbc Z))<|.nil) [1,8,45] [(3,1),(6,5),(7,2),(44,3)] λ j=>?_
     have j:=j.tipW (s:=44) 3 [3,6,7]
     refine j.shA 3 44 1 3 (tp Z) [1,8] [6,7] λ j=>?_
     have j:=j.unm (s:=3) 1 [6,7]
     have j:=j.unm (s:=7) 2 [3,6]
     refine Wz<|yP<|za ?_
     cases h
     exact fx
    have⟨h8,c8,h⟩:=bs h
    refine QY<|j.hdA 3 1 (Pb.fld owDisk.f2) [6,7] λ e7 h9 _ b5 j=>?_
    refine j.segB 7 (sc Z (xFa Z Wi U)<|sc Z (xLc (sb:=3) (.head _) Z Z Z T Z)<|sP 1 (r:=by exact sc Z (xFa Z zbj U)<|sc Z (xLf (sb:=3) (Pb.fld owDisk.f1) Z T Z)<|sc Z (xIa (g:=e7) Z kS66 T T Z (λ h=>b5 h Z) c8)<|segC)) [1,8,50,52] [(3,1),(6,5),(7,2)] λ j=>?_
    refine j.sfA 3 1 (((Pb.fld owDisk.f2).row (.head _) Z (λ h=>b5 h Z) c8).fld Dir.z2) (tp Z) (tp Z) [1,8] [6,7] (λ j=>Wz ?_)
    have j:=j.unm (s:=3) 1 [6,7]
    have j:=j.unm (s:=7) 2 [3,6]
    refine yP<|za ?_
    cases h
    exact fx
   rintro _ _ ⟨_,Q,R,W,X,Y,A,j⟩
   have h:=e0
   have⟨i0,i3,h⟩:=bs h
   refine j.rgA [1,8] [(3,1),(6,5),(7,2)] (λ j=>za ?_)
   exact fl h
  refine cj (yz (yz (wG ?_)))
  refine za ?_
  have h:=lo h b7
  cases h
  exact fx
 rintro _ _ ⟨_,Q,R,W,X,Y,A,j⟩
 have h:=d4
 refine Ka<|QY<|j.nmB (s:=3) 1 [6] λ i4 j=>?_
 refine j.ldW (sb:=3) 1 [] [6] λ j=>?_
 refine j.nmB (s:=6) 5 [53] λ i5 j=>?_
 refine j.stO (sb:=6) (tv:=53) 5 1 Pb (zt Z) [] [] λ j=>?_
 exact Wz<|za<|wp_ret<|j.rtC 5 Z kT68 Z (λ _ h=>h) h
def qA(x0:Disk)(x1:Tree)(x2:Int)(x3:Str)(x4:Int):Option (Disk×Bool):=
(i64 (x0.clock+x4)).bind λ a9=>
(Yh x0.dirs).bind λ b3=>
(ZV (⟨x1,a9,b3⟩:Disk) x2 x3).bind λ a8=>
(w8 a8).bind λ b5=>
if(!b5)=true then(some ((⟨je,0,[]⟩:Disk),false))
else(some (a8,true))
theorem zbn{x1 x3 r}(h:qA x0 x1 x2 x3 x4=some r):Fn prog 143 [dt x0,dt x1,dt x2,dt x3,dt x4] (dtup [dt r.1,dt r.2]):=by
 refine fq1 5 func143 λ M w0 _ j=>?_
 refine QY<|j.zg 2 λ j=>?_
 refine j.alA 3 Zh [2,3,4,5,6] [] λ b3 j=>?_
 refine j.zh 1 [(10,3)] (λ j=>Wz ?_)
 refine j.heldF zN λ c6 _ hz6 j=>?_
 refine j.tkLp (i:=0) (j.fzS (g:=31)) hz6 (tp Z) λ j=>?_
 refine j.tkFp (i:=1) (j.fzS (g:=31)) Disk.fld1 zbj (tp Z) (next:=@λ a8 j=>?_)
 refine j.tkLp (i:=2) (j.fzS (g:=31)) hz6 (tp Z) λ j=>?_
 refine j.tM 3 4 (j.fzS (g:=31)) λ _ j=>?_
 have⟨a9,b9,h⟩:=bs h
 refine j.tkAr (op:=.add) (i:=4) (j.fzS (g:=31)) (tp Z) (tp Z) b9 (next:=@λ a12 j=>?_)
 refine j.tkFp (i:=5) (j.fzS (g:=31)) Disk.fld2 Wi (tp Z) (next:=@λ a14 j=>?_)
 refine j.tkLp (i:=6) (j.fzS (g:=31)) hz6 (tp Z) λ j=>?_
 have⟨b5,b6,h⟩:=bs h
 refine ws 1 1023 (λ a w=>∃ M1 R W X,Sx (Frm.of w0) 31 M M1 [oneB none,R,oneB none,oneB W,X] [(2,dt x2),(3,dt x3),(31,dfz c6)] [(10,3,dbox W 0 xB),(12,4,dow (Ow.box (owDisk (Ow.frz (α:=Tree)) oDs)) X ⟨xB⟩),(21,1,dow (owDisk (Ow.frz (α:=Tree)) oDs) R (⟨x1,a9,b5⟩:Disk))] a w) ?_ λ n48=>?_
 ·rintro _ _ ⟨_,R,W,X,j⟩
  refine aK1 10 ?_
  refine j.nmB (s:=12) 4 [10,21] λ d3 j=>?_
  refine j.stO (sb:=12) (tv:=21) 4 1 Pb (zt Z) [2,3,31] [10] λ j=>?_
  have j:=j.unm (s:=12) 4 [10]
  refine aHN (j.fzS (g:=31)) ?_
  refine aK0<|QY<|j.nmB (s:=12) 4 [10] λ d4 j=>?_
  refine j.ldK (sb:=12) 4 2 kT68 [2,3] [10] λ _ H61 _ _ j=>?_
  refine j.zh 2 [(10,3),(12,4),(22,2)] λ j=>?_
  have⟨d5,c8,h⟩:=bs h
  refine j.cT (sb:=22) (l:=[.tmp 23,.tmp 24]) 2 (.cons T (.cons T .nil)) (zfs c8) [] [10,12] λ j=>?_
  refine j.stRv (sb:=12) (tv:=25) 4 2 Z Z Z kT68 Z Z Z [] Z [10] Z Z Z λ _ _ j=>?_
  have⟨d6,d1,h⟩:=bs h
  refine Wz<|j.nmB (s:=12) 4 [10] λ d7 j=>?_
  refine j.hdW (s:=12) 4 true (λ _=>Pb) [10] λ cs71 hS71 j=>?_
  refine j.zo [(10,3),(12,4)] (λ j=>?_) (hs:=sc Z (xLw (sb:=12) (.head _) Z (hS71 Z) Z U Z)<|sc Z (yV (l:=[.tmp 26]) j.ob.sub Z (.cons (zaL (sb:=12) j.ob 4 Pb (.head _) Z (Qc Z (hS71 Z)) T Z) .nil) (Xe d1) ZA)<|segZ)
  have j:=j.ncf (s:=12) 4 [10]
  refine j.cq h (λ h=>?_) λ h=>?_
  ·refine QY<|j.zh 1 [(10,3)] (λ j=>?_) (hs:=sc Z (yf (parts:=[]) (ns:=[1,1,1]) (zs:=ZC) Z Z (λ w a hl=>by simp) (λ w a hl=>Disk.parts (x:=(⟨je,0,[]⟩:Disk)) (xI _ _) ⟨Z,trivial⟩ yA))<|.nil)
   refine j.stA 10 3 FldS.id (tp Z) [] [] λ j=>?_
   refine j.zh 1 [(10,3)] (λ j=>Wz ?_)
   cases h
   exact j.y2
  have j:=j.unm (s:=12) 4 [10]
  have j:=j.frzB (s:=12) 4 [28] [10]
  refine QY<|j.zh 1 [(10,3)] λ j=>?_
  refine j.stA 10 3 FldS.id (tp Z) [] [] λ j=>?_
  refine j.zh 1 [(10,3)] (λ j=>Wz ?_)
  cases h
  exact j.y2
 refine ws 2 511 (λ a w=>∃ M1 R W,Sx (Frm.of w0) 31 M M1 [oneB none,R,oneB none,oneB W,oneB none] [(2,dt x2),(3,dt x3),(31,dfz c6)] [(10,3,dbox W 0 xB),(21,1,dow (owDisk (Ow.frz (α:=Tree)) oDs) R (⟨x1,a9,b5⟩:Disk))] a w) ?_ λ n38=>?_
 ·rintro _ _ ⟨_,R,W,j⟩
  refine aK1 9 ?_
  refine j.alcW (ow:=(owDisk (Ow.frz (α:=Tree)) oDs)) 4 (owDisk.z xI Ow.row_z) [2,3,31] [10,21] λ e0 _ _ _ j=>?_
  have j:=j.unm (s:=12) 4 [10,21]
  exact aHe n48 (j.fzS (g:=31))
 refine ws 2 767 (λ a w=>∃ M1 Q W X,Sx (Frm.of w0) 31 M M1 [Q,oneB none,oneB none,oneB W,X] [(2,dt x2),(3,dt x3),(13,dt x1),(17,dt a9),(31,dfz c6)] [(10,3,dbox W 0 xB),(12,4,dow (Ow.box (owDisk (Ow.frz (α:=Tree)) oDs)) X ⟨xB⟩),(20,0,dow oDs Q b5)] a w) ?_ λ n42=>?_
 ·rintro _ _ ⟨_,Q,W,X,j⟩
  refine aK1 8 ?_
  refine j.bldW (ow:=(owDisk (Ow.frz (α:=Tree)) oDs)) (parts:=[(0,.tmp 13),(1,.tmp 17),(2,.tmp 20)]) (ns:=[1,1,1]) (zs:=ZC) (x:=(⟨x1,a9,b5⟩:Disk)) 1 [0] (FA ⟨by decide,Rep.len (α:=Tree) (j.oc T)⟩ (FA ⟨by decide,Rep.len (α:=Int) (j.oc T)⟩ (FA ⟨by decide,Ow.len _ (yW (j.st.has 20 _ Z))⟩ FN))) (((owDisk (Ow.frz (α:=Tree)) oDs)).more (owDisk.mk (x:=(⟨x1,a9,b5⟩:Disk)) (g0:=noB) (j.oc T) (j.oc T) (yW (j.st.has 20 _ Z)) (λ b h1=>(λ h2=>h1.elim))) (λ b=>(λ hb=>hb.elim (λ hb=>hb.elim) (λ hb=>⟨0,by simp,hb⟩)))) [2,3,31] [10,12] (@λ b7 _ _ j=>?_)
  have j:=j.gs (Gs':=[oneB none,b7,oneB none,oneB W,X])
  have j:=j.gs (Gs':=[oneB none,b7,oneB none,oneB W,X])
  exact aHe n48 (j.fzS (g:=31))
 refine ws 3 255 (λ a w=>∃ M1 Q W,Sx (Frm.of w0) 31 M M1 [Q,oneB none,oneB none,oneB W,oneB none] [(2,dt x2),(3,dt x3),(13,dt x1),(17,dt a9),(31,dfz c6)] [(10,3,dbox W 0 xB),(20,0,dow oDs Q b5)] a w) ?_ λ n30=>?_
 ·rintro _ _ ⟨_,Q,W,j⟩
  refine aK2 8 9 ?_ ?_
  ·refine j.bldW (ow:=(owDisk (Ow.frz (α:=Tree)) oDs)) (parts:=[(0,.tmp 13),(1,.tmp 17),(2,.tmp 20)]) (ns:=[1,1,1]) (zs:=ZC) (x:=(⟨x1,a9,b5⟩:Disk)) 1 [0] (FA ⟨by decide,Rep.len (α:=Tree) (j.oc T)⟩ (FA ⟨by decide,Rep.len (α:=Int) (j.oc T)⟩ (FA ⟨by decide,Ow.len _ (yW (j.st.has 20 _ Z))⟩ FN))) (((owDisk (Ow.frz (α:=Tree)) oDs)).more (owDisk.mk (x:=(⟨x1,a9,b5⟩:Disk)) (g0:=noB) (j.oc T) (j.oc T) (yW (j.st.has 20 _ Z)) (λ b h1=>(λ h2=>h1.elim))) (λ b=>(λ hb=>hb.elim (λ hb=>hb.elim) (λ hb=>⟨0,by simp,hb⟩)))) [2,3,31] [10] (@λ b8 _ _ j=>?_)
   have j:=j.gs (Gs':=[oneB none,b8,oneB none,oneB W,oneB none])
   have j:=j.gs (Gs':=[oneB none,b8,oneB none,oneB W,oneB none])
   exact aHe n38 (j.fzS (g:=31))
  ·refine j.alcW (ow:=(owDisk (Ow.frz (α:=Tree)) oDs)) 4 (owDisk.z xI Ow.row_z) [2,3,13,17,31] [10,20] λ e3 _ _ _ j=>?_
   have j:=j.unm (s:=12) 4 [10,20]
   exact aHe n42 (j.fzS (g:=31))
 refine ws 3 639 (λ a w=>∃ M1 W X,Sx (Frm.of w0) 31 M M1 [oneB none,oneB none,oneB none,oneB W,X] [(2,dt x2),(3,dt x3),(13,dt x1),(17,dt a9),(19,dt x0.dirs),(31,dfz c6)] [(10,3,dbox W 0 xB),(12,4,dow (Ow.box (owDisk (Ow.frz (α:=Tree)) oDs)) X ⟨xB⟩)] a w) ?_ λ n34=>?_
 ·rintro _ _ ⟨_,W,X,j⟩
  refine aK1 7 ?_
  refine j.cN (l:=[.tmp 19]) 0 (.cons T .nil) (Jy b6).n [2,3,13,17,31] [10,12] λ j=>?_
  exact aHe n42 (j.fzS (g:=31))
 refine aK2 7 9 ?_ ?_
 ·refine j.cN (l:=[.tmp 19]) 0 (.cons T .nil) (Jy b6).n [2,3,13,17,31] [10] λ j=>?_
  exact aHe n30 (j.fzS (g:=31))
 ·refine j.alcW (ow:=(owDisk (Ow.frz (α:=Tree)) oDs)) 4 (owDisk.z xI Ow.row_z) [2,3,13,17,19,31] [10] λ d2 _ _ _ j=>?_
  have j:=j.unm (s:=12) 4 [10]
  exact aHe n34 (j.fzS (g:=31))
def jt(x0:Disk)(x1:File)(x2:Int):Option (Disk×Bool):=
(w8 x0).bind λ v5=>
(gO ((!v5) == false) (yt x2 (0:Int) (200:Int))).bind λ v6=>
if((!v5)||(!v6))=true then(some ((⟨je,0,[]⟩:Disk),false))
else((qz x0.tree x1).bind λ a8=>
if(!a8.2)=true then(some ((⟨je,0,[]⟩:Disk),false))
else((qA x0 a8.1 x1.root x1.pkg x2).bind λ a9=>
some (a9.1,a9.2)))
theorem zft{x1 r}(h:jt x0 x1 x2=some r):Fn prog 97 [dt x0,dt x1,dt x2] (dtup [dt r.1,dt r.2]):=by
 unfold jt at h
 refine fnx (fn:=f97) 2 func97 Z Z (λ M _ _ j=>Ka ?_)
 refine QY<|j.segA 2 [2,3,4] [] λ j=>?_
 refine j.alA 0 Zh [2,3,4] [] λ b3 j=>?_
 refine j.segA 1 [2,3,4] [(6,0)] (λ j=>Wz ?_)
 have⟨v5,p5,v6,p6,h⟩:=Ke h
 refine za<|Ka<|j.sqB (sP 1 (r:=by exact sc Z (oK (Xe p5))<|sP 3 (r:=by exact sg Z Z (λ hg=>oK (yM (gh hg p6)))<|segC))) [2,3,4,17] [(6,0)] λ j=>?_
 refine j.cs h (λ _ h=>?_) λ _ h=>?_
 ·refine Ka<|QY<|j.segB 1 (sc Z (yf (parts:=[]) (ns:=[1,1,1]) (zs:=ZC) Z Z (λ w a hl=>by simp) (λ w a hl=>Disk.parts (x:=(⟨je,0,[]⟩:Disk)) (xI _ _) ⟨Z,trivial⟩ yA))<|.nil) [18] [(6,0)] λ j=>?_
  refine j.stA 6 0 FldS.id (tp Z) [] [] λ j=>?_
  refine j.segA 1 [7] [(6,0)] (λ j=>Wz ?_)
  refine za<|wp_ret (zZ ?_)
  cases h
  exact j.y2
 refine aC<|za<|Ka<|QY ?_
 obtain⟨a8,a9,h⟩:=bsW h zbm
 refine j.segA 7 [2,3,4,24,25] [(6,0)] λ j=>?_
 refine j.alA 1 xI [2,3,4,24,25] [6] λ b5 j=>?_
 refine j.stA 8 1 FldS.id (tp Z) [2,3,4,25] [6] λ j=>?_
 refine j.segA 1 [2,3,4,9] [(6,0),(8,1)] (λ j=>Wz ?_)
 refine za<|Ka<|j.sqA [2,3,4,27] [(6,0),(8,1)] λ j=>?_
 refine j.cs h (λ _ h=>?_) λ _ h=>?_
 ·refine Ka<|QY<|j.segB 1 (sc Z (yf (parts:=[]) (ns:=[1,1,1]) (zs:=ZC) Z Z (λ w a hl=>by simp) (λ w a hl=>Disk.parts (x:=(⟨je,0,[]⟩:Disk)) (xI _ _) ⟨Z,trivial⟩ yA))<|.nil) [28] [(6,0)] λ j=>?_
  refine j.stA 6 0 FldS.id (tp Z) [] [] λ j=>?_
  refine j.segA 1 [7] [(6,0)] (λ j=>Wz ?_)
  refine za<|wp_ret (zZ ?_)
  cases h
  exact j.y2
 refine aC<|za<|Ka<|QY ?_
 obtain⟨b6,b7,h⟩:=bsW h zbn
 refine j.segC 10 [37,38] [(6,0)] λ j=>?_
 refine j.stA 6 0 FldS.id (tp Z) [38] [] λ j=>?_
 refine j.segA 1 [7] [(6,0)] (λ j=>Wz ?_)
 refine za<|wp_ret ?_
 cases h
 exact j.y2
instance:Ct3 prog 97 dt dt dt (λ r=>dtup [dt r.1,dt r.2]) jt:=⟨λ h=>zft h⟩
def wx(x0:Tree)(x1:Int):Option (Tree×Bool):=
(yn x0).bind λ v6=>
(gO ((!v6) == false) (i64 ((x0.files.length:Int) - (1:Int)))).bind λ v7=>
(gO ((!v6) == false) (yt x1 (0:Int) v7)).bind λ v8=>
if((!v6)||(!v8))=true then(some ((⟨[]⟩:Tree),false))
else((qK x0).bind λ a8=>
(WB a8.files x1).bind λ _b3=>
(i64 (x1+(1:Int))).bind λ a9=>
(zaZ a8.files a9).bind λ _b5=>
some ((⟨((cutL a8.files x1.toNat a9.toNat).take (x1.toNat+(a8.files.length - a9.toNat)))⟩:Tree),true))
theorem zdz{x0 r}(h:wx x0 x1=some r):Fn prog 144 [dt x0,dt x1] (dtup [dt r.1,dt r.2]):=by
 refine fq1 5 func144 λ M _ _ y=>?_
 refine QY<|y.zg 1 λ y=>?_
 refine y.alA 3 xI [1,2] [] λ b3 y=>?_
 refine y.zh 1 [(4,3)] (λ y=>Wz ?_)
 have⟨v6,p6,v7,p7,h⟩:=Ke h
 have⟨v8,p8,h⟩:=bs h
 refine y.zd [(4,3)] h (λ y h=>?_) (λ y h=>?_) (hs:=sZ 1 (r:=by exact sc Z (oK (jX p6))<|sZ 6 (r:=by exact sg Z Z (λ hg=>xAr Z V cI (gh hg p7))<|sg Z Z (λ hg=>oK (yM (gh hg p8)))<|segZ)))
 ·refine QY<|y.zh 1 [(4,3)] (λ y=>?_) (hs:=sc Z (yf (parts:=[]) (ns:=[1]) (zs:=J6) Z Z (λ w a hl=>by simp) (λ w a hl=>Tree.parts (x:=(⟨[]⟩:Tree)) yA))<|.nil)
  refine y.stA 4 3 FldS.id (tp Z) [] [] λ y=>?_
  refine y.zh 1 [(4,3)] (λ y=>Wz ?_)
  cases h
  exact y.y2
 refine QY<|y.zh 1 [(4,3)] λ y=>?_
 have⟨b9,b5,h⟩:=bs h
 refine y.cN (l:=[.tmp 20]) 0 (.cons T .nil) (Jx b5) [1] [4] λ y=>?_
 refine y.alcW (ow:=(owTree (Ow.row 45 (Ow.frz (α:=File))))) 4 (owTree.z Ow.row_z) [1] [4,21] λ c8 _ _ _ y=>?_
 refine y.stO (sb:=6) (tv:=21) 4 0 Pb (zt Z) [1] [4] λ y=>?_
 have⟨d1,a8,b6,b7,h⟩:=Ke h
 have⟨d2,a9,h⟩:=bs h
 refine Wz<|y.hdA 6 4 (Pb.fld owTree.f0) [4] λ d3 d4 _ b8 y=>?_
 refine y.drnA (D:=[_,_,_,_,_,_,_,_,_]) zN 9 [[(6,nS)],[(22,0),(6,nS)],[(1,nS)],[(23,1),(24,2),(6,nS)],[(6,nS)],[(26,4),(6,nS)],[(1,nS)],[(28,6)],[(27,5),(29,7),(6,nS)],[(25,3),(30,8)],[(6,nS)],[(32,10),(31,9)]] [25,30] [(4,3),(6,4)] (λ _ _ y=>?_) (hs:=rc Z Z (xFa Z qr U)<|
  rc Z Z (xLc (sb:=6) (.head _) Z Z Z T Z)<|
  rc Z Z (oM Z T)<|
  rc Z Z (xSlH (sb:=6) (Pb.fld owTree.f0) (.head _) Z Z Z kS63 T T a8)<|
  rc Z Z (xFa Z qr U)<|
  rc Z Z (xLc (sb:=6) (.head _) Z Z Z T Z)<|
  rc Z Z (oM Z T)<|
  rc Z Z (xAr Z T cI b7)<|
  rc Z Z (xSlL (sb:=6) (Pb.fld owTree.f0) (.head _) Z Z Z kS63 T T a9)<|.nil)
 refine y.apCut (sb:=6) (i:=x1) (j:=b6) 4 (Pb.fld owTree.f0) (.head _) Z Z Z kE63 Z (λ _ h=>h) (tp Z) (tp Z) a8 a9 (ab (by first | omega | exact lt_i64 (by assumption))) [] rfl [4] rfl rfl λ _ _ y=>?_
 refine y.zh 1 [(4,3),(6,4)] (λ y=>?_) (hs:=sc Z (xFa Z qr U)<|.nil)
 refine y.stSh (sb:=6) 4 (Pb.fld owTree.f0) (.head _) Z Z Z Z kT63 Z (λ _ h=>h) (tp Z) (tp Z) (cut_le a8 a9 (ab (by first | omega | exact lt_i64 (by assumption)))) [] rfl [4] rfl rfl (λ _ y=>Wz ?_)
 have y:=y.unm (s:=6) 4 [4]
 have y:=y.frzB (s:=6) 4 [] [4]
 refine QY<|y.zh 1 [(4,3)] λ y=>?_
 refine y.stA 4 3 FldS.id (tp Z) [] [] λ y=>?_
 refine y.zh 1 [(4,3)] (λ y=>Wz ?_)
 cases h
 exact y.y2
instance:Ct2 prog 144 dt dt (λ r=>dtup [dt r.1,dt r.2]) wx:=⟨λ h=>zdz h⟩
def wy(x0:Disk)(x1:Int)(x2:Int):Option (Disk×Bool):=
(w8 x0).bind λ v5=>
(gO ((!v5) == false) (yt x2 (0:Int) (200:Int))).bind λ v6=>
if((!v5)||(!v6))=true then(some ((⟨je,0,[]⟩:Disk),false))
else((wx x0.tree x1).bind λ a8=>
if(!a8.2)=true then(some ((⟨je,0,[]⟩:Disk),false))
else((atI x0.tree.files x1).bind λ b3=>
(atI x0.tree.files x1).bind λ b5=>
(qA x0 a8.1 b3.root b5.pkg x2).bind λ a9=>
some (a9.1,a9.2)))
theorem zdA{r}(h:wy x0 x1 x2=some r):Fn prog 98 [dt x0,dt x1,dt x2] (dtup [dt r.1,dt r.2]):=by
 refine fq1 2 func98 λ M _ _ j=>?_
 refine QY<|j.zg 1 λ j=>?_
 refine j.alA 0 Zh [1,2,3] [] λ b3 j=>?_
 refine j.zh 1 [(6,0)] (λ j=>Wz ?_)
 have⟨v5,p5,v6,p6,h⟩:=Ke h
 refine j.zd [(6,0)] h (λ j h=>?_) (λ j h=>?_) (hs:=sZ 1 (r:=by exact sc Z (oK (Xe p5))<|sZ 3 (r:=by exact sg Z Z (λ hg=>oK (yM (gh hg p6)))<|segZ)))
 ·refine QY<|j.zh 1 [(6,0)] (λ j=>?_) (hs:=sc Z (yf (parts:=[]) (ns:=[1,1,1]) (zs:=ZC) Z Z (λ w a hl=>by simp) (λ w a hl=>Disk.parts (x:=(⟨je,0,[]⟩:Disk)) (xI _ _) ⟨Z,trivial⟩ yA))<|.nil)
  refine j.stA 6 0 FldS.id (tp Z) [] [] λ j=>?_
  refine j.zh 1 [(6,0)] (λ j=>Wz ?_)
  cases h
  exact j.y2
 have⟨b6,b7,h⟩:=bs h
 refine QY<|j.zh 7 [(6,0)] λ j=>?_
 refine j.alA 1 xI [1,2,3,24,25] [6] λ b8 j=>?_
 refine j.stA 8 1 FldS.id (tp Z) [1,2,3,25] [6] λ j=>?_
 refine j.zh 1 [(6,0),(8,1)] (λ j=>Wz ?_)
 refine j.zd [(6,0),(8,1)] h (λ j h=>?_) λ j h=>?_
 ·refine QY<|j.zh 1 [(6,0)] (λ j=>?_) (hs:=sc Z (yf (parts:=[]) (ns:=[1,1,1]) (zs:=ZC) Z Z (λ w a hl=>by simp) (λ w a hl=>Disk.parts (x:=(⟨je,0,[]⟩:Disk)) (xI _ _) ⟨Z,trivial⟩ yA))<|.nil)
  refine j.stA 6 0 FldS.id (tp Z) [] [] λ j=>?_
  refine j.zh 1 [(6,0)] (λ j=>Wz ?_)
  cases h
  exact j.y2
 have⟨b9,a8,c8,a9,h⟩:=Ke h
 have⟨d1,b5,h⟩:=bs h
 refine j.zu 20 [(6,0)] (λ j=>?_) (hs:=sw Z (zH Z T)<|sw Z (y8 Z T)<|sw Z (zI Disk.fld0 Z T)<|sw Z (zI Tree.fld0 Z (ht:=qr) T)<|sw Z (zH Z T)<|sw Z (oM Z T)<|sw Z (xIdx Z T T a8)<|sw Z (zI File.fld0 Z T)<|sw Z (zH Z T)<|sw Z (zI Disk.fld0 Z T)<|sw Z (zI Tree.fld0 Z (ht:=qr) T)<|sw Z (zH Z T)<|sw Z (oM Z T)<|sw Z (xIdx Z T T a9)<|sw Z (zI File.fld1 Z T)<|sw Z (zH Z T)<|sw Z (oM Z T)<|sw Z (zA (l:=[.tmp 29,.tmp 30,.tmp 37,.tmp 44,.tmp 45]) Z (.cons T (.cons T (.cons T (.cons T (.cons T .nil))))) (zbn b5))<|sw Z (xExt (i:=0) Z T Z)<|sw Z (xExt (i:=1) Z T Z)<|.nil)
 refine j.store (sb:=6) 0 FldS.id Z Z Z kT68 Z Z (tp Z) Z [48] Z [] Z Z λ _ _ j=>?_
 refine j.zh 1 [(6,0)] (λ j=>Wz ?_)
 cases h
 exact j.y2
instance:Ct3 prog 98 dt dt dt (λ r=>dtup [dt r.1,dt r.2]) wy:=⟨λ h=>zdA h⟩
def Yi(x0:Tree)(x1:Int)(x2:Int)(x3:List Stmt):Option (Tree×Bool):=
(yn x0).bind λ v6=>
(gO ((!v6) == false) (i64 ((x0.files.length:Int) - (1:Int)))).bind λ v7=>
(gO ((!v6) == false) (yt x1 (0:Int) v7)).bind λ v8=>
(gO (((!v6)||(!v8)) == false) (yt x2 (0:Int) (99:Int))).bind λ v9=>
(gO ((((!v6)||(!v8))||(!v9)) == false) (yX x3)).bind λ a9=>
if((((!v6)||(!v8))||(!v9))||(!a9))=true then(some ((⟨[]⟩:Tree),false))
else((qK x0).bind λ a8=>
(atI a8.files x1).bind λ b3=>
(appO 56 [] x3).bind λ b5=>
some ((⟨(a8.files.set x1.toNat ({ b3 with stamp:=x2,body:=b5 }))⟩:Tree),true))
theorem zaP{x0 r}(h:Yi x0 x1 x2 x3=some r):Fn prog 99 [dt x0,dt x1,dt x2,dt x3] (dtup [dt r.1,dt r.2]):=by
 refine fq1 6 func99 λ M _ _ j=>?_
 refine QY<|j.zg 1 λ j=>?_
 refine j.alA 4 xI [1,2,3,4] [] λ b3 j=>?_
 refine j.zh 1 [(8,4)] (λ j=>Wz ?_)
 have⟨v6,p6,v7,p7,h⟩:=Ke h
 have⟨v8,p8,v9,p9,h⟩:=Ke h
 have⟨d5,b7,h⟩:=bs h
 refine j.zd [(8,4)] h (λ j h=>?_) (λ j h=>?_) (hs:=sZ 1 (r:=by exact sc Z (oK (jX p6))<|sZ 6 (r:=by exact sg Z Z (λ hg=>xAr Z V cI (gh hg p7))<|sg Z Z (λ hg=>oK (yM (gh hg p8)))<|sZ 4 (r:=by exact sg Z Z (λ hg=>oK (yM (gh hg p9)))<|sZ 4 (r:=by exact sg Z Z (λ hg=>oK (WR (gh hg b7)))<|segZ)))))
 ·refine QY<|j.zh 1 [(8,4)] (λ j=>?_) (hs:=sc Z (yf (parts:=[]) (ns:=[1]) (zs:=J6) Z Z (λ w a hl=>by simp) (λ w a hl=>Tree.parts (x:=(⟨[]⟩:Tree)) yA))<|.nil)
  refine j.stA 8 4 FldS.id (tp Z) [] [] λ j=>?_
  refine j.zh 1 [(8,4)] (λ j=>Wz ?_)
  cases h
  exact j.y2
 refine QY<|j.zh 1 [(8,4)] λ j=>?_
 have⟨b6,b8,h⟩:=bs h
 refine j.cN (l:=[.tmp 34]) 0 (.cons T .nil) (Jx b8) [1,2,3] [8] λ j=>?_
 refine j.alcW (ow:=(owTree (Ow.row 45 (Ow.frz (α:=File))))) 5 (owTree.z Ow.row_z) [1,2,3] [8,35] λ b9 _ _ _ j=>?_
 refine j.stO (sb:=10) (tv:=35) 5 0 Pb (zt Z) [1,2,3] [8] λ j=>?_
 have⟨c8,b5,h⟩:=bs h
 refine Wz<|QY<|j.hdA 10 5 (Pb.fld owTree.f0) [8] λ d1 d6 _ a8 j=>?_
 refine j.zh 6 [(8,4),(10,5)] (λ j=>?_) (hs:=sc Z (xFa Z qr U)<|sc Z (xLc (sb:=10) (.head _) Z Z Z T Z)<|sZ 2 (r:=by exact sc Z (xIa (g:=d1) Z kS63 T T Z (λ h=>a8 h Z) b5)<|segZ))
 refine j.sfA 10 5 (((Pb.fld owTree.f0).row (.head _) Z (λ h=>a8 h Z) b5).fld File.z4) (tp Z) (tp Z) [1,3] [8] (λ j=>Wz ?_)
 refine j.hdA 10 5 (Pb.fld owTree.f0) [8] λ d7 d2 d3 a9 j=>?_
 refine j.held (λ w=>w.cell? ⟨b9,0,none⟩=some (.slice d2 ((b6.files.set x1.toNat ({ c8 with stamp:=x2 })).length) d3)) zN λ _ j=>?_
 refine j.tk (i:=0) Z Z (by decide +kernel) (by decide +kernel) (by decide +kernel) (λ _ _ _ h=>h) (j.cellS (sb:=10) (.head _)) (yFa Z qr (j.st.has 10 _ Z).1) λ _ j=>?_
 refine j.tk (i:=1) Z Z (by decide +kernel) (by decide +kernel) (by decide +kernel) (λ _ _ _ h=>h) (j.cellS (sb:=10) (.head _)) (yLd Z kT63 (j.st.has 42 _ Z) (λ _ h=>h)) λ _ j=>?_
 refine j.tM 2 1 (j.cellS (sb:=10) (.head _)) λ _ j=>?_
 refine j.tM 4 3 (j.cellS (sb:=10) (.head _)) λ _ j=>?_
 refine j.mvN (s:=43) (sb:=10) 5 2 (Pb.fld owTree.f0) (.head _) Z (zT Z Z) Z Z (by simp) (by simp) (by decide) Z (λ _ h=>h) [1,3,42,44,46] Z [8] Z Z Z Z (by decide) λ _ H43 j=>?_
 have⟨e0,d4,h⟩:=bs h
 refine aK1 3 ?_
 refine j.zh 1 [(8,4),(10,5),(43,2),(45,3)] (λ j=>?_) (hs:=sc Z (xt (α:=Stmt) (e:=109) Z)<|.nil)
 refine aHN (j.hkS (sb:=10)) ?_
 refine aK1 5 ?_
 refine j.apA 3 yI d4 [44] [8,10,43] λ e3 j=>?_
 refine aHN (j.hkS (sb:=10)) ?_
 refine aK1 6 ?_
 refine j.zh 1 [(8,4),(10,5),(43,2),(47,3)] (λ j=>?_) (hs:=sc Z (xIaN Z kS63 Z T (λ h=>a9 h Z) (atI_set b5))<|.nil)
 refine aHN (j.hkS (sb:=10)) ?_
 refine aK1 7 ?_
 refine j.zh 1 [(8,4),(10,5),(43,2),(47,3)] λ j=>?_
 refine aHN (j.hkS (sb:=10)) ?_
 refine aK1 8 ?_
 have j:=j.frz 3 (s:=47) Z Z [49] Z [8,10,43] Z
 refine j.sfA 43 2 (((PV.root.row Z (λ h=>a9 h Z) (atI_set b5)).conv (upd':=λ z=>(b6.files.set x1.toNat z)) (λ _=>by simp only[dE])).fld File.z5) (tp Z) (tp Z) [] [8,10] λ j=>?_
 refine aHN (j.hkS (sb:=10)) ?_
 refine aK0<|j.stG (s:=43) (sb:=10) 5 2 Z (by simp) (by simp) (by decide) Z Z (λ _ h=>h) (λ _ h=>h) [] Z [8] Z Z Z λ _ j=>?_
 have j:=j.unm (s:=10) 5 [8]
 have j:=j.frzB (s:=10) 5 [] [8]
 refine QY<|j.zh 1 [(8,4)] λ j=>?_
 refine j.stA 8 4 FldS.id (tp Z) [] [] λ j=>?_
 refine j.zh 1 [(8,4)] (λ j=>Wz ?_)
 cases h
 exact j.y2
instance:Ct4 prog 99 dt dt dt dt (λ r=>dtup [dt r.1,dt r.2]) Yi:=⟨λ h=>zaP h⟩
def ji(x0:Disk)(x1:GAct)(x2:Int):Option (Disk×Bool):=
if cmpI .eql x1.kind 0 then((jG x1.file).bind λ v9=>
(i64 (x0.clock+x2)).bind λ a8=>
(jt x0 ({ v9 with stamp:=(if a8<(99:Int) then a8 else(99:Int)) }) x2).bind λ a9=>
some (a9.1,a9.2))
else(if cmpI .eql x1.kind 1 then((wy x0 x1.index x2).bind λ b3=>
some (b3.1,b3.2))
else((i64 (x0.clock+x2)).bind λ b5=>
(Yi x0.tree x1.index (if b5<(99:Int) then b5 else(99:Int)) x1.file.body).bind λ b6=>
if(!b6.2)=true then(some ((⟨je,0,[]⟩:Disk),false))
else((i64 (x0.clock+x2)).bind λ b7=>
(Yh x0.dirs).bind λ b8=>
some ((⟨b6.1,b7,b8⟩:Disk),true))))
theorem zch{x1 r}(h:ji x0 x1 x2=some r):Fn prog 62 [dt x0,dt x1,dt x2] (dtup [dt r.1,dt r.2]):=by
 refine fq1 3 func62 λ M _ _ j=>?_
 refine QY<|j.zg 2 λ j=>?_
 refine j.alA 0 Zh [2,3,4] [] λ b3 j=>?_
 refine j.zh 1 [(6,0)] (λ j=>Wz ?_)
 refine j.zo [(6,0)] λ j=>?_
 refine j.zd [(6,0)] h (λ j h=>?_) λ j h=>?_
 ·have⟨v9,p9,h⟩:=bs h
  refine QY<|j.zh 3 [(6,0)] λ j=>?_
  refine j.alA 1 Js [2,3,17] [6] λ b5 j=>?_
  refine j.stA 8 1 FldS.id (tp Z) [2,3] [6] (λ j=>Wz ?_)
  have⟨b6,b7,h⟩:=bs h
  refine QY<|j.zh 6 [(6,0),(8,1),(23,1)] (λ j=>?_) (hs:=sZ 4 (r:=by exact sc Z (xMin Z cI T)<|segZ))
  refine j.stA 8 1 File.set4 (tp Z) [2,3] [6] (λ j=>Wz ?_)
  have⟨b8,b9,h⟩:=bs h
  refine QY<|j.zh 6 [(6,0)] λ j=>?_
  refine j.stA 6 0 FldS.id (tp Z) [29] [] λ j=>?_
  refine j.zh 1 [(6,0)] (λ j=>Wz ?_)
  cases h
  exact j.y2
 refine j.zd [(6,0)] h (λ j h=>?_) λ j h=>?_
 ·have⟨c8,d1,h⟩:=bs h
  refine QY<|j.zh 7 [(6,0)] λ j=>?_
  refine j.stA 6 0 FldS.id (tp Z) [38] [] λ j=>?_
  refine j.zh 1 [(6,0)] (λ j=>Wz ?_)
  cases h
  exact j.y2
 have⟨d2,d3,d4,a8,h⟩:=Ke h
 refine QY<|j.zh 16 [(6,0)] (λ j=>?_) (hs:=sZ 8 (r:=by exact sc Z (xMin Z cI T)<|sZ 3 (r:=by exact sc Z (oK (zaP a8))<|segZ)))
 refine j.alA 2 xI [2,3,53,54] [6] λ d5 j=>?_
 refine j.stA 9 2 FldS.id (tp Z) [2,3,54] [6] λ j=>?_
 refine j.zh 1 [(6,0),(9,2)] (λ j=>Wz ?_)
 refine j.zd [(6,0),(9,2)] h (λ j h=>?_) λ j h=>?_
 ·refine QY<|j.zh 1 [(6,0)] (λ j=>?_) (hs:=sc Z (yf (parts:=[]) (ns:=[1,1,1]) (zs:=ZC) Z Z (λ w a hl=>by simp) (λ w a hl=>Disk.parts (x:=(⟨je,0,[]⟩:Disk)) (xI _ _) ⟨Z,trivial⟩ yA))<|.nil)
  refine j.stA 6 0 FldS.id (tp Z) [] [] λ j=>?_
  refine j.zh 1 [(6,0)] (λ j=>Wz ?_)
  cases h
  exact j.y2
 have⟨d6,d7,e0,a9,h⟩:=Ke h
 refine j.zu 9 [(6,0)] (λ j=>?_) (hs:=sV 7 (r:=by exact sw Z (zA (l:=[.tmp 64]) Z (.cons T .nil) ((Jy a9)).fn)<|sw Z (zax Z T T T)<|.nil))
 refine j.store (sb:=6) 0 FldS.id Z Z Z kT68 Z Z (tp Z) Z [] Z [] Z Z λ _ _ j=>?_
 refine j.zh 1 [(6,0)] (λ j=>Wz ?_)
 cases h
 exact j.y2
instance:Ct3 prog 62 dt dt dt (λ r=>dtup [dt r.1,dt r.2]) ji:=⟨λ h=>zch h⟩
theorem kN250:fnB prog 250=true:=by kernel_rfl
def qe(x0:List Stmt)(s5:Int×Int):Option ((Int×Int)⊕Int):=
if(cmpI .lss s5.2 (x0.length:Int))=true then((i64 (s5.1+(3:Int))).bind λ a8=>
(atI x0 s5.2).bind λ a9=>
(i64 (a8+(a9.module.l.length:Int))).bind λ b3=>
(atI x0 s5.2).bind λ b5=>
(i64 (b3+(b5.name.l.length:Int))).bind λ b6=>
(i64 (s5.2+(1:Int))).bind λ b7=>
some (.inl (b6,b7)))
else(some (.inr s5.1))
def Yu(x0:List Stmt):Option Int:=
Option.bind (α:=Int) (zE (λ s5=>qe x0 s5) ((0:Int),(0:Int))) λ o3=>
some o3
theorem QS{x0 r}(h:Yu x0=some r):Fn prog 210 [dt x0] (dt r):=by
 refine fq1 0 func210 λ M w0 _ j=>?_
 refine j.z1 λ j=>?_
 refine j.z1 (λ j=>za ?_)
 refine j.jm [] (λ o3=>[(3,dt o3)]) h (λ o3 p3=>?_) λ o3 _ _ j h=>?_
 ·refine j.z1 λ j=>?_
  refine wql p3 (λ s5 a w=>Sx (Frm.of w0) 28 M M [] [(0,dt x0),(3,dt s5.1),(4,dt s5.2)] [] a w) (j.sel0 [0,3,4]) ?_
  rintro s5 z5 _ _ j hs5 hx5
  have h:qe x0 s5=some z5:=hs5
  unfold qe at h
  refine j.zc h (λ j h=>?_) λ j h=>?_
  ·have⟨b7,a8,h⟩:=bs h
   have⟨b8,a9,b9,b3,h⟩:=Ke h
   have⟨c8,b5,d1,b6,h⟩:=Ke h
   refine j.drA (D:=[_,_,_,_,_,_,_,_,_,_,_,_,_,_,_,_,_]) zN [[(3,nS)],[(11,0)],[(0,nS)],[(4,nS)],[(13,2),(14,3)],[(15,4)],[(16,5)],[(17,6)],[(12,1),(18,7)],[(0,nS)],[(4,nS)],[(20,9),(21,10)],[(22,11)],[(23,12)],[(24,13)],[(19,8),(25,14)],[(26,15)]] [0,3,4] [] (λ j=>?_) (hs:=rc Z Z (oM Z T)<|
     rc Z Z (xAr Z T cI a8)<|
     rc Z Z (oM Z T)<|
     rc Z Z (oM Z T)<|
     rc Z Z (xIdx Z T T a9)<|
     rc Z Z (zI Stmt.fld1 Z T)<|
     rc Z Z (zH Z T)<|
     rc Z Z (zbI Z T)<|
     rc Z Z (xAr Z T T b3)<|
     rc Z Z (oM Z T)<|
     rc Z Z (oM Z T)<|
     rc Z Z (xIdx Z T T b5)<|
     rc Z Z (zI Stmt.fld3 Z T)<|
     rc Z Z (zH Z T)<|
     rc Z Z (zbI Z T)<|
     rc Z Z (xAr Z T T b6)<|
     rc Z Z (oA Z T)<|.nil)
   have⟨d2,d3,h⟩:=bs h
   exact j.zn [] h
  have h:=lo h hx5
  cases h
  exact fz
 exact j.ze h
instance:Ct1 prog 210 dt dt Yu:=⟨λ h=>QS h⟩
def jP(x0:Int)(x1:Int):Option Int:=
(i64 (x0*(131:Int))).bind λ v2=>
(i64 (v2+x1)).bind λ v3=>
(i64 (v3+(1:Int))).bind λ v4=>
(modO v4 (1000003:Int)).bind λ v5=>
some v5
theorem Wm{x0 r}(h:jP x0 x1=some r):Fn prog 226 [dt x0,dt x1] (dt r):=by
 refine fq1 0 func226 λ M _ _ j=>?_
 refine j.z1 λ j=>?_
 have⟨v2,p2,v3,p3,h⟩:=Ke h
 have⟨v4,p4,v5,p5,h⟩:=Ke h
 exact j.ze h (hs:=sZ 5 (r:=by exact sc Z (xMod Z T cI p5)<|segZ))
instance:Ct2 prog 226 dt dt dt jP:=⟨λ h=>Wm h⟩
def wO(x1:Str)(s4:Int×Int):Option ((Int×Int)⊕Int):=
if(cmpI .lss s4.2 (x1.l.length:Int))=true then((atI x1.l s4.2).bind λ v9=>
(jP s4.1 (v9.toNat:Int)).bind λ a8=>
(i64 (s4.2+(1:Int))).bind λ a9=>
some (.inl (a8,a9)))
else(some (.inr s4.1))
def qf(x0:Int)(x1:Str):Option Int:=
Option.bind (α:=Int) (zE (λ s4=>wO x1 s4) (x0,(0:Int))) λ o2=>
(jP o2 (0:Int)).bind λ a8=>
some a8
theorem WS{x0 x1 r}(h:qf x0 x1=some r):Fn prog 227 [dt x0,dt x1] (dt r):=by
 refine fq1 0 func227 λ M w0 _ j=>?_
 refine j.z1 (λ j=>za ?_)
 refine j.jm [] (λ o2=>[(0,dt o2)]) h (λ o2 p2=>?_) λ o2 _ _ j h=>?_
 ·refine j.z1 λ j=>?_
  refine wql p2 (λ s4 a w=>Sx (Frm.of w0) 20 M M [] [(0,dt s4.1),(1,dt x1),(5,dt s4.2)] [] a w) (j.sel0 [0,1,5]) ?_
  rintro s4 z4 _ _ j hs4 hx4
  have h:wO x1 s4=some z4:=hs4
  unfold wO at h
  refine j.zc h (λ j h=>?_) λ j h=>?_
  ·have⟨v9,p9,h⟩:=bs h
   have⟨a9,a8,h⟩:=bs h
   refine j.z1 (λ j=>?_) (hs:=sZ 4 (r:=by exact sc Z (xCvI Z kCv5_3 T)<|sc Z (oK (Wm a8))<|segZ))
   have⟨b3,b5,h⟩:=bs h
   exact j.zn [] h
  have h:=lo h hx4
  cases h
  exact fz
 have⟨b6,b7,h⟩:=bs h
 exact j.ze h
instance:Ct2 prog 227 dt dt dt qf:=⟨λ h=>WS h⟩
def qg(x0:List Stmt)(s5:Int×Int):Option ((Int×Int)⊕Int):=
if(cmpI .lss s5.2 (x0.length:Int))=true then((atI x0 s5.2).bind λ a8=>
(jP s5.1 a8.kind).bind λ a9=>
(jP a9 a8.level).bind λ b3=>
(jP b3 a8.value).bind λ b5=>
(qf b5 a8.module).bind λ b6=>
(qf b6 a8.name).bind λ b7=>
(i64 (s5.2+(1:Int))).bind λ b8=>
some (.inl (b7,b8)))
else(some (.inr s5.1))
def Yv(x0:List Stmt):Option Int:=
Option.bind (α:=Int) (zE (λ s5=>qg x0 s5) ((1:Int),(0:Int))) λ o3=>
some o3
theorem zci{x0 r}(h:Yv x0=some r):Fn prog 211 [dt x0] (dt r):=by
 refine fq1 1 func211 λ M w0 _ j=>?_
 refine j.z1 λ j=>?_
 refine j.z1 (λ j=>za ?_)
 refine j.jmq 1 [] (λ o3=>[(3,dt o3)]) (λ _ _=>[]) h (λ o3 p3=>?_) λ o3 q3 _ _ _ j h=>?_
 ·refine j.z1 λ j=>?_
  refine wql p3 (λ s5 a w=>∃ M1 Q,Sx (Frm.of w0) 34 M M1 [oneB Q] [(0,dt x0),(3,dt s5.1),(4,dt s5.2)] [] a w) fx ?_
  rintro s5 z5 _ _ ⟨_,Q,j⟩ hs5 hx5
  have h:qg x0 s5=some z5:=hs5
  unfold qg at h
  refine j.zc h (λ j h=>?_) λ j h=>?_
  ·have⟨b7,b8,h⟩:=bs h
   refine QY<|j.zg 4 λ j=>?_
   refine j.alA 0 zas [0,3,4,15] [] λ b9 j=>?_
   refine j.stA 5 0 FldS.id (tp Z) [0,3,4] [] (λ j=>Wz ?_)
   have⟨c8,a8,d1,a9,h⟩:=Ke h
   have⟨d2,b3,h⟩:=bs h
   refine j.drA (D:=[_,_,_,_,_,_,_,_,_,_,_]) zN [[(3,nS)],[(5,nS)],[(17,1)],[(16,0),(18,2)],[(5,nS)],[(20,4)],[(19,3),(21,5)],[(5,nS)],[(23,7)],[(22,6),(24,8)],[(25,9)]] [0,3,4] [(5,0)] (λ j=>?_) (hs:=rc Z Z (oM Z T)<|
     rc Z Z (jQ Stmt.fld0 Z T)<|
     rc Z Z (y8 Z T)<|
     rc Z Z (zA (l:=[.tmp 16,.tmp 18]) Z (.cons T (.cons T .nil)) (Wm a8))<|
     rc Z Z (jQ Stmt.fld2 Z T)<|
     rc Z Z (y8 Z T)<|
     rc Z Z (zA (l:=[.tmp 19,.tmp 21]) Z (.cons T (.cons T .nil)) (Wm a9))<|
     rc Z Z (jQ Stmt.fld4 Z T)<|
     rc Z Z (y8 Z T)<|
     rc Z Z (zA (l:=[.tmp 22,.tmp 24]) Z (.cons T (.cons T .nil)) (Wm b3))<|
     rc Z Z (oA Z T)<|.nil)
   have⟨d3,b5,d4,b6,h⟩:=Ke h
   refine j.drA (D:=[_,_,_,_,_,_,_,_]) zN [[(3,nS)],[(5,nS)],[(27,1)],[(26,0),(28,2)],[(5,nS)],[(30,4)],[(29,3),(31,5)],[(32,6)]] [0,3,4] [] (λ j=>?_) (hs:=rc Z Z (oM Z T)<|
     rc Z Z (jQ Stmt.fld1 Z T)<|
     rc Z Z (y8 Z T)<|
     rc Z Z (zA (l:=[.tmp 26,.tmp 28]) Z (.cons T (.cons T .nil)) (WS b5))<|
     rc Z Z (jQ Stmt.fld3 Z T)<|
     rc Z Z (y8 Z T)<|
     rc Z Z (zA (l:=[.tmp 29,.tmp 31]) Z (.cons T (.cons T .nil)) (WS b6))<|
     rc Z Z (oA Z T)<|.nil)
   have⟨d5,d6,h⟩:=bs h
   exact j.zn [] h
  have h:=lo h hx5
  cases h
  exact fz
 exact j.ze h
instance:Ct1 prog 211 dt dt Yv:=⟨λ h=>zci h⟩
def Xz(x0:Compiled)(x1:File):Option Bool:=
if cmpI .eql x0.mode 0 then((gO (cmpI .eql x0.stamp x1.stamp == true) (Yu x1.body)).bind λ v6=>
some (cmpI .eql x0.stamp x1.stamp&&cmpI .eql x0.size v6))
else(if cmpI .eql x0.mode 1 then((Yv x1.body).bind λ a8=>
some (cmpI .eql x0.hash a8))
else(some true))
theorem zcj{x0 x1}(h:Xz x0 x1=some r):Fn prog 190 [dt x0,dt x1] (dt r):=by
 refine fq1 0 func190 λ M _ _ j=>?_
 refine j.z1 λ j=>?_
 refine j.z1 λ j=>?_
 refine j.zc h (λ j h=>?_) λ j h=>?_
 ·have⟨v6,p6,h⟩:=bs h
  refine j.zw (λ j=>?_) (hs:=sV 4 (r:=by exact sw Z (oCI Z T T)<|sV 5 (r:=by exact swg Z Z (λ hg=>zA (l:=[.tmp 18]) Z (.cons V .nil) (QS (gh hg p6)))<|swg Z Z (λ hg=>oCI Z V V)<|sw Z (xc Z T T)<|sw Z (oA Z T)<|.nil)))
  exact j.ret Z Z h
 refine j.zc h (λ j h=>?_) λ j h=>?_
 ·have⟨a8,a9,h⟩:=bs h
  refine j.zw λ j=>?_
  exact j.ret Z Z h
 exact j.ze h
instance:Ct2 prog 190 dt dt dt Xz:=⟨λ h=>zcj h⟩
def wm(x0:List Compiled)(x1:Int)(x2:Str)(x3:Bool)(s4:Int):Option (Int⊕(Unit⊕Int)):=
if(cmpI .lss s4 (x0.length:Int))=true then((atI x0 s4).bind λ v9=>
(gO (cmpI .eql v9.root x1 == true) (atI x0 s4)).bind λ a8=>
(gO ((cmpI .eql v9.root x1&&decide (a8.module=x2)) == true) (atI x0 s4)).bind λ a9=>
if((cmpI .eql v9.root x1&&decide (a8.module=x2))&&(a9.init == x3))=true then(some (.inr (.inr s4)))
else((i64 (s4+(1:Int))).bind λ b3=>
some (.inl b3)))
else(some (.inr (.inl ())))
def qZ(x0:List Compiled)(x1:Int)(x2:Str)(x3:Bool):Option Int:=
Option.bind (α:=Unit⊕Int) (zE (λ s4=>wm x0 x1 x2 x3 s4) (0:Int)) (Sum.elim (λ _b2=>
some (-1:Int)) some)
theorem Qs{x0 x2 x3 r}(h:qZ x0 x1 x2 x3=some r):Fn prog 188 [dt x0,dt x1,dt x2,dt x3] (dt r):=by
 refine fq1 0 func188 λ M w0 _ j=>?_
 refine j.z1 (λ j=>za ?_)
 refine j.jb [] (λ _=>[]) h (λ o2 p2 k2=>?_) λ b2 _ _ j h=>?_
 ·refine j.z1 λ j=>?_
  refine wql p2 (λ s4 a w=>Sx (Frm.of w0) 42 M M [] [(0,dt x0),(1,dt x1),(2,dt x2),(3,dt x3),(9,dt s4)] [] a w) (j.sel0 [0,1,2,3,9]) ?_
  rintro s4 z4 _ _ j hs4 hx4
  have h:wm x0 x1 x2 x3 s4=some z4:=hs4
  unfold wm at h
  refine j.zc h (λ j h=>?_) λ j h=>?_
  ·have⟨v9,p9,h⟩:=bs h
   have⟨a8,a9,b3,b5,h⟩:=Ke h
   refine j.zc h (λ j h=>?_) λ j h=>?_
   ·exact j.ze (jo (lo h hx4) k2)
   have⟨b6,b7,h⟩:=bs h
   exact j.zn [] h
  have h:=lo h hx4
  exact flz h
 exact j.ze h
instance:Ct4 prog 188 dt dt dt dt dt qZ:=⟨λ h=>Qs h⟩
def Yj(x0:File)(x1:Int):Option Compiled:=
(jy x0).bind λ v4=>
(Yu x0.body).bind λ v5=>
(Yv x0.body).bind λ v6=>
(appO 56 [] x0.body).bind λ v7=>
some (⟨x0.root,v4,x0.init,x1,x0.stamp,v5,v6,v7⟩:Compiled)
theorem zaQ{x0 r}(h:Yj x0 x1=some r):Fn prog 191 [dt x0,dt x1] (dt r):=by
 refine fq1 1 func191 λ M _ _ j=>?_
 refine QY<|j.zg 1 λ j=>?_
 refine j.alA 0 WJ [1,2] [] (λ b3 j=>Wz ?_)
 have⟨v4,p4,v5,p5,h⟩:=Ke h
 have⟨v6,p6,v7,p7,h⟩:=Ke h
 refine j.zu 20 [(4,0)] (λ j=>?_) (hs:=sV 3 (r:=by exact sw Z (zA (l:=[.tmp 7]) Z (.cons T .nil) (Wg p4))<|sV 7 (r:=by exact sw Z (zA (l:=[.tmp 15]) Z (.cons T .nil) (QS p5))<|sV 2 (r:=by exact sw Z (zA (l:=[.tmp 18]) Z (.cons T .nil) (zci p6))<|sw Z (xt (α:=Stmt) (e:=109) Z)<|sV 2 (r:=by exact sw Z (op_app0 Z kE43 T T p7)<|sw Z (WD Z T T T T T T T T)<|.nil)))))
 refine j.store (sb:=4) 0 FldS.id Z Z Z kT174 Z Z (tp Z) Z [] Z [] Z Z (λ _ _ j=>Wz ?_)
 exact j.yB h
instance:Ct2 prog 191 dt dt dt Yj:=⟨λ h=>zaQ h⟩
def YZ(x0:Disk)(x1:Int)(x2:Str):Option Int:=
(qY x0.dirs x1 x2).bind λ v2=>
if cmpI .lss v2 0 then(some (0:Int))
else((atI x0.dirs v2).bind λ v9=>
some v9.stamp)
theorem zfu{x2 r}(h:YZ x0 x1 x2=some r):Fn prog 222 [dt x0,dt x1,dt x2] (dt r):=by
 refine fq1 0 func222 λ M _ _ j=>?_
 refine j.z1 λ j=>?_
 have⟨v2,p2,h⟩:=bs h
 refine j.z1 λ j=>?_
 refine j.zc h (λ j h=>?_) λ j h=>?_
 ·exact j.ze h
 have⟨v9,p9,h⟩:=bs h
 exact j.ze h
instance:Ct3 prog 222 dt dt dt dt YZ:=⟨λ h=>zfu h⟩
def Za(x0:Str)(x1:Str):Option Str:=
Option.bind (α:=Str) (if(decide (x1≠(⟨[]⟩:Str)))=true then((i64 ((x1.l.length:Int)+(1:Int))).bind λ v6=>
(zb3 x0 v6).bind λ v7=>
some v7)
else(some x0)) λ o2=>
(qt o2 (UInt8.ofNat 46)).bind λ a8=>
(atI a8 0).bind λ a9=>
some a9
theorem zdB{x0 x1 r}(h:Za x0 x1=some r):Fn prog 249 [dt x0,dt x1] (dt r):=by
 refine fq1 0 func249 λ M w0 _ j=>?_
 refine j.z1 (λ j=>za ?_)
 refine j.jm [] (λ o2=>[(0,dt o2)]) h (λ o2 p2=>?_) λ o2 _ _ j h=>?_
 ·refine j.zc p2 (λ j h=>?_) λ j h=>?_
  ·have⟨v6,p6,h⟩:=bs h
   have⟨v7,p7,h⟩:=bs h
   refine j.z1 λ j=>?_
   cases h
   exact fz
  cases h
  exact fz
 have⟨a8,a9,b3,b5,h⟩:=Ke h
 exact j.ze h
instance:Ct2 prog 249 dt dt dt Za:=⟨λ h=>zdB h⟩
def jB(x0:Tree)(x1:Int)(x2:Str)(s5:(List Str)×Int):Option (((List Str)×Int)⊕(List Str)):=
if(cmpI .lss s5.2 (x0.files.length:Int))=true then(Option.bind (α:=(List Str)) ((atI x0.files s5.2).bind λ a8=>
if cmpI .neq a8.root x1 then(some s5.1)
else(Option.bind (α:=Str) (if(decide (a8.pkg=x2)&&a8.init)=true then(some (⟨[42]⟩:Str))
else(if(decide (a8.pkg=x2))=true then(some a8.name)
else((gO (decide (a8.pkg≠(⟨[]⟩:Str)) == true) (We a8.pkg x2)).bind λ b3=>
if(decide (a8.pkg≠(⟨[]⟩:Str))&&b3)=true then((Za a8.pkg x2).bind λ b5=>
(catO b5 (⟨[47]⟩:Str)).bind λ b6=>
some b6)
else(some (⟨[]⟩:Str))))) λ a9=>
if(decide (a9≠(⟨[]⟩:Str)))=true then((YG s5.1 a9).bind λ b7=>
some b7)
else(some s5.1))) λ b8=>
(i64 (s5.2+(1:Int))).bind λ b9=>
some (.inl (b8,b9)))
else(some (.inr s5.1))
def Wn(x0:Tree)(x1:Int)(x2:Str):Option (List Str):=
Option.bind (α:=(List Str)) (zE (λ s5=>jB x0 x1 x2 s5) ([],(0:Int))) λ o3=>
some o3
theorem zfv{x0 x2 r}(h:Wn x0 x1 x2=some r):FnOwn prog 223 [dt x0,dt x1,dt x2] 9 r:=by
 refine fqO 2 func223 λ M w0 _ j=>?_
 refine j.z1 (λ j=>?_) (hs:=sZ 1 (r:=by exact sc Z (oA Z (jE (α:=Str) (e:=9)))<|.nil))
 refine j.zo [(7,0)] (λ j=>?_) (hs:=sc Z (xt (α:=Str) (e:=9) Z (ht':=WC))<|segZ)
 refine za<|j.jmq 2 [] (λ _=>[]) (λ o3 q=>[(7,0,dtip (q 0) 9 o3)]) h (λ o3 p3=>?_) λ o3 q3 _ _ _ j h=>?_
 ·refine j.zo [(7,0)] λ j=>?_
  refine wql p3 (λ s5 a w=>∃ M1 Q R,Sx (Frm.of w0) 65 M M1 [oneB Q,oneB R] [(1,dt x1),(2,dt x2),(3,dptr x0),(8,dt s5.2)] [(7,0,dtip Q 9 s5.1)] a w) fx ?_
  rintro s5 z5 _ _ ⟨_,Q,R,j⟩ hs5 hx5
  have h:jB x0 x1 x2 s5=some z5:=hs5
  unfold jB at h
  refine j.zd [(7,0)] h (λ j h=>?_) λ j h=>?_
  ·refine wqk<|za<|j.jmq 2 [1,2,3,8] (λ _=>[]) (λ a8 q=>[(7,0,dtip (q 0) 9 a8)]) h (λ a8 b3=>?_) λ a8 b8 _ _ _ j h=>?_
   ·have⟨b9,c8,h⟩:=bs b3
    refine QY<|j.zh 5 [(7,0)] λ j=>?_
    refine j.alA 1 Js [1,2,3,8,23] [7] λ d1 j=>?_
    refine j.stA 9 1 FldS.id (tp Z) [1,2,3,8] [7] (λ j=>Wz ?_)
    refine j.zd [(7,0),(9,1)] h (λ j h=>?_) λ j h=>?_
    ·cases h
     exact fz
    refine j.zo [(7,0),(9,1)] (λ j=>za ?_)
    refine j.jmq 2 [1,2,3,8] (λ a9=>[(10,dt a9)]) (λ _ q=>[(7,0,dtip (q 0) 9 s5.1)]) h (λ a9 b5=>?_) λ a9 d2 _ _ _ j h=>?_
    ·refine j.zd [(7,0),(9,1)] b5 (λ j h=>?_) λ j h=>?_
     ·refine j.zo [(7,0)] λ j=>?_
      cases h
      exact fz
     refine j.zd [(7,0),(9,1)] h (λ j h=>?_) λ j h=>?_
     ·refine j.zo [(7,0)] λ j=>?_
      cases h
      exact fz
     have⟨d3,b6,h⟩:=bs h
     refine j.zd [(7,0),(9,1)] h (λ j h=>?_) (λ j h=>?_) (hs:=sZ 7 (r:=by exact sg Z Z (λ hg=>oK (zdo (gh hg b6)))<|segZ))
     ·have⟨d4,d5,h⟩:=bs h
      have⟨d6,d7,h⟩:=bs h
      refine j.zo [(7,0)] λ j=>?_
      cases h
      exact fz
     cases h
     exact fz
    refine j.zd [(7,0)] h (λ j h=>?_) λ j h=>?_
    ·refine QY<|j.zh 2 [(7,0),(61,0)] λ j=>?_
     have⟨e0,b7,h⟩:=bs h
     refine j.take (l:=[.tmp 62]) 0 Z Z kN250 Z Z (.cons T .nil) (zdp b7) [1,2,3,8] Z [] Z Z λ e3 _ _ _ j=>?_
     refine j.zh 1 [(7,0)] (λ j=>Wz ?_)
     cases h
     exact fz
    cases h
    exact fz
   have⟨e4,e5,h⟩:=bs h
   exact j.zn [(7,0)] h
  have h:=lo h hx5
  cases h
  exact fz
 exact j.zl 0 h
def Yk(x0:List Compiled)(x1:File)(x2:Int):Option ((List Stmt)×(List Compiled)×Bool):=
(jy x1).bind λ v3=>
(qZ x0 x1.root v3 x1.init).bind λ v4=>
(gO (cmpI .geq v4 0 == true) (atI x0 v4)).bind λ v8=>
(gO (cmpI .geq v4 0 == true) (Xz v8 x1)).bind λ v9=>
if(cmpI .geq v4 0&&v9)=true then((atI x0 v4).bind λ a9=>
some (a9.body,x0,true))
else((Yj x1 x2).bind λ a8=>
Option.bind (α:=(List Compiled)) (if cmpI .geq v4 0 then((atI x0 v4).bind λ _b6=>
some (x0.set v4.toNat a8))
else(if(cmpI .lss (x0.length:Int) 12)=true then((appO 88 x0 ([a8]:List Compiled)).bind λ b3=>
some b3)
else(some x0))) λ b5=>
some (x1.body,b5,false))
theorem zeY{x0 x1 r}(h:Yk x0 x1 x2=some r):FnT prog 151 oCs x0 [dt x1,dt x2] (.t3m (dt r.1) oCs r.2.1 (dt r.2.2)):=by
 unfold Yk at h
 refine fnT (fn:=f151) 0 2 func151 Z Z λ M G w0 _ j=>?_
 refine j.sqB (sP 1 (r:=by exact sc Z (oA Z (wu (α:=Stmt)))<|sc Z (oA Z (wu (α:=Compiled)))<|segC)) [2,4] [(0,0)] (λ j=>Ka ?_)
 have⟨v3,p3,v4,p4,h⟩:=Ke h
 refine j.nmR (s:=0) 0 [] λ g2 A2 _ hA2 j=>?_
 refine j.drA (D:=[_,_,_,_,_,_,_,_,_]) zN [[(0,nS)],[(4,nS)],[(12,1)],[(4,nS)],[(14,3)],[(4,nS)],[(16,5)],[(11,0),(13,2),(15,4),(17,6)],[(18,7)]] [2,4,9] [(0,0)] (λ j=>?_) (hs:=rc Z Z (oM Z T)<|
  rc Z Z (zI File.fld0 Z T)<|
  rc Z Z (zH Z T)<|
  rc Z Z (zH Z T)<|
  rc Z Z (zA (l:=[.tmp 14]) Z (.cons T .nil) (Wg p3))<|
  rc Z Z (zI File.fld3 Z T)<|
  rc Z Z (zH Z T)<|
  rc Z Z (yV (l:=[.tmp 11,.tmp 13,.tmp 15,.tmp 17]) j.ob.sub Z (.cons (lendN j.ob 0 (λ _ h=>h) T) (.cons (xf j.ob.sub T) (.cons (xf j.ob.sub T) (.cons (xf j.ob.sub T) .nil)))) (Qs p4) jK)<|
  rc Z Z (oA Z T)<|.nil)
 have⟨v8,p8,v9,p9,h⟩:=Ke h
 refine za<|Ka<|Ka<|j.drA (D:=[_,_,_,_,_,_,_,_,_,_]) zN [[(9,nS)],[(19,0)],[(20,1)],[(0,nS),(21,2)],[(9,nS),(21,2)],[(22,3),(23,4),(21,2)],[(24,5),(21,2),(0,nS)],[(4,nS),(21,2)],[(25,6),(26,7),(21,2)],[(21,2),(27,8)]] [2,4,9,28] [(0,0)] (λ j=>?_) (hs:=rc Z Z (oM Z T)<|
  rc Z Z (oCI Z T cI)<|
  rc Z Z (oM Z T)<|
  rg Z Z Z (λ hg=>oM Z U)<|
  rg Z Z Z (λ hg=>oM Z T)<|
  rg Z Z Z (λ hg=>xIa (g:=g2) Z kS73 V V Z hA2 (gh hg p8))<|
  rg Z Z Z (λ hg=>xLf (sb:=0) (PV.root.row Z hA2 (gh hg p8)) Z V Z)<|
  rg Z Z Z (λ hg=>zH Z T)<|
  rg Z Z Z (λ hg=>zA (l:=[.tmp 25,.tmp 26]) Z (.cons V (.cons V .nil)) (zcj (gh hg p9)))<|
  rc Z Z (xc Z T T)<|.nil)
 refine za<|j.cs h (λ _ h=>?_) λ _ h=>?_
 ·have⟨b9,a8,h⟩:=bs h
  refine j.sqB (sc Z (oM Z T)<|
   sc Z (oM Z T)<|
   sc Z (xIaN Z kS73 Z T hA2 a8)<|
   sc Z (xFa Z kF174_7 T)<|
   sc Z (xLf (sb:=0) ((PV.root.row Z hA2 a8).fld Compiled.z7) Z T Z)<|
   sc Z (oM Z T)<|
   sc Z (oA Z T)<|
   sc Z (oA Z T)<|
   sc Z (oA Z cB)<|.nil) [6,8] [(7,0)] (λ j=>?_)
  refine wp_ret (zZ ?_)
  have j:=j.unm (s:=7) 0 []
  exact j.rt3m 0 Z Z Z Z h
 refine aC<|za<|Ka<|QY ?_
 obtain⟨c8,d1,h⟩:=bsW h zaQ
 refine j.segA 3 [4,9,37] [(0,0)] λ j=>?_
 refine j.alA 1 WJ [4,9,37] [0] λ d2 j=>?_
 refine j.stA 10 1 FldS.id (tp Z) [4,9] [0] (λ j=>Wz ?_)
 have⟨b3,b5,b6⟩:=bs h
 refine za<|XW (λ a w=>∃ M1 Q R,Sx (Frm.chg w0 G) 54 M M1 [Q,oneB R] [(4,dptr x1)] [(0,0,dow oCs Q b3)] a w) ?_ ?_
 ·refine j.sqA [4,9,39] [(0,0),(10,1)] λ j=>?_
  refine j.cs b5 (λ _ h=>?_) λ _ h=>?_
  ·have⟨d3,a9,h⟩:=bs h
   refine QY<|j.segB 4 (sc Z (oM Z T)<|
    sc Z (oM Z T)<|
    sc Z (y8 Z T)<|
    sc Z (xIaN Z kS73 Z T hA2 a9)<|.nil) [4,42,43] [(0,0)] (λ j=>?_)
   refine j.stF (sb:=0) 0 (PV.root.row Z hA2 a9) (tp Z) (tp Z) [4] [] (λ _ j=>Wz ?_)
   have j:=j.unm (s:=0) 0 []
   refine za ?_
   cases h
   exact fx
  refine j.sqB (sc Z (oM Z T)<|
   sc Z (xLeN Z kL73 Z)<|
   sc Z (oCI Z T cI)<|.nil) [4,46] [(0,0),(10,1)] (λ j=>?_)
  refine j.cs h (λ _ h=>?_) λ _ h=>?_
  ·refine QY<|j.segB 3 (sc Z (oM Z T)<|
    sc Z (y8 Z T)<|
    sc Z (xH (opds:=[.tmp 48]) Z Z Z (.cons T .nil))<|.nil) [4,49] [(0,0),(47,0)] (λ j=>?_)
   have j:=j.unm (s:=47) 0 []
   refine j.tipR (s:=47) 0 (by first | (simp;done) | exact oD rfl) [] λ d4 j=>?_
   have⟨d5,b7,h⟩:=bs h
   refine j.apA 0 yI b7 [4] [] λ d6 j=>?_
   refine j.segA 1 [4] [(0,0)] (λ j=>Wz ?_)
   have j:=j.tipW (s:=0) 0 []
   refine za ?_
   cases h
   exact fx
  have j:=j.unm (s:=0) 0 [10]
  refine aC<|za ?_
  cases h
  exact fx
 rintro _ _ ⟨_,Q,R,j⟩
 have h:=b6
 refine j.nmR (s:=0) 0 [] λ d7 e0 _ b8 j=>?_
 refine j.sqA [6,8] [(7,0)] (λ j=>wp_ret ?_)
 have j:=j.unm (s:=7) 0 []
 exact j.rt3m 0 Z Z Z Z h
