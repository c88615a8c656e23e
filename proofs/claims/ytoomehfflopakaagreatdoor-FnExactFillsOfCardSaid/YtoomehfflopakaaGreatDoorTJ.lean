import Derived.Test.YtoomehfflopakaaGreatDoorTM
namespace Go.Proofs.YtoomehfflopakaaGreatDoor
open Go.RowKit Tryz
attribute [local irreducible] OpRel OpdR
set_option maxRecDepth 10000
set_option maxHeartbeats 1600000
abbrev RWt:=Rw (Bx Finder) (List Compiled) (List Int) Int
variable{r:(RWt)×Disk×(List (List Int))}{d:Disk}{x1 x2 x3 x5:Int}{x4:List Compiled}{x0:List GAct}{bk bl:Nat}{R:Rec}{x:RWt}{s:Str}
theorem kS27:slB prog 27 9=true:=by kernel_rfl
theorem kZ47:zeroCells prog 47=some zcGAct:=by kernel_rfl
theorem kF47_0:fldB prog 47 0 0=true:=by kernel_rfl
theorem kF47_1:fldB prog 47 1 1=true:=by kernel_rfl
theorem kF47_3:fldB prog 47 3 8=true:=by kernel_rfl
theorem zbj:fldB prog 68 1 1=true:=by kernel_rfl
theorem kE63:elB prog 63 45 6 80=true:=by kernel_rfl
theorem kI66:sliB prog 66 166 4=true:=by kernel_rfl
theorem kI101:sliB prog 101 9 1=true:=by kernel_rfl
theorem kD166_0_1_3:∀ {M:Nat->Prop} {look:Nat->Option Dt} {o:Oper} {q0 q1 q3:Operand} {y0:Int} {y1:Str} {y3:List Str},o.op=.build 166 #[(0,q0),(1,q1),(3,q3)]->OpdR M look q0 (dt y0)->OpdR M look q1 (dt y1)->OpdR M look q3 (dt y3)->OpRel prog M look o (dt (⟨y0,y1,0,y3⟩:Dir)):=@λ _ _ _ q0 q1 q3 y0 y1 y3 ho h0 h1 h3=>yf (parts:=[(0,q0),(1,q1),(3,q3)]) (ns:=[1,1,1,1]) (zs:=zpDir) Z ho (λ w a hl=>FA ⟨(by decide:0<4),Rep.len (α:=Int) (OpdR.cells h0 hl)⟩ (FA ⟨(by decide:1<4),Rep.len (α:=Str) (OpdR.cells h1 hl)⟩ (FA ⟨(by decide:3<4),Rep.len (α:=List Str) (OpdR.cells h3 hl)⟩ FN))) (λ w a hl=>Dir.parts (x:=(⟨y0,y1,0,y3⟩:Dir)) (OpdR.cells h0 hl) (OpdR.cells h1 hl) ⟨Z,trivial⟩ (OpdR.cells h3 hl))
theorem kF47_2:fldB prog 47 2 7=true:=by kernel_rfl
theorem zax:∀ {M:Nat->Prop} {look:Nat->Option Dt} {o:Oper} {q0 q1 q2:Operand} {y0:Tree} {y1:Int} {y2:List Dir},o.op=.build 68 #[(0,q0),(1,q1),(2,q2)]->OpdR M look q0 (dt y0)->OpdR M look q1 (dt y1)->OpdR M look q2 (dt y2)->OpRel prog M look o (dt (⟨y0,y1,y2⟩:Disk)):=@λ _ _ _ q0 q1 q2 y0 y1 y2 ho h0 h1 h2=>yf (parts:=[(0,q0),(1,q1),(2,q2)]) (ns:=[1,1,1]) (zs:=ZC) Z ho (λ w a hl=>FA ⟨(by decide:0<3),Rep.len (α:=Tree) (OpdR.cells h0 hl)⟩ (FA ⟨(by decide:1<3),Rep.len (α:=Int) (OpdR.cells h1 hl)⟩ (FA ⟨(by decide:2<3),Rep.len (α:=List Dir) (OpdR.cells h2 hl)⟩ FN))) (λ w a hl=>Disk.parts (x:=(⟨y0,y1,y2⟩:Disk)) (OpdR.cells h0 hl) (OpdR.cells h1 hl) (OpdR.cells h2 hl))
instance iF166_2WaG:FldO prog 166 2 2:=⟨kF166_2⟩
instance iF166_3WaG:FldO prog 166 3 3:=⟨zbN⟩
instance iF45_4WaG:FldO prog 45 4 4:=⟨kF45_4⟩
instance iF45_5WaG:FldO prog 45 5 5:=⟨kF45_5⟩
instance iF65_0WaG:FldO prog 65 0 0:=⟨qr⟩
instance iF68_1WaG:FldO prog 68 1 1:=⟨zbj⟩
instance iF68_2WaG:FldO prog 68 2 2:=⟨Wi⟩
def wH(x0:List GAct)(s4:Int):Option (Int⊕(Unit⊕Bool)):=
if(cmpI .lss s4 (x0.length:Int))=true then((atI x0 s4).bind λ v9=>
Option.bind (α:=Bool) (if cmpI .eql v9.kind 0 then((jh v9.file).bind λ a8=>
some a8)
else(if cmpI .eql v9.kind 1 then(some true)
else(if cmpI .eql v9.kind 2 then((xK v9.file.body).bind λ a9=>
some a9)
else(if cmpI .eql v9.kind 3 then((ym v9.name).bind λ b3=>
some b3)
else(some false))))) λ b5=>
if(!b5)=true then(some (.inr (.inr false)))
else((i64 (s4+(1:Int))).bind λ b6=>
some (.inl b6)))
else(some (.inr (.inl ())))
def ZN(x0:List GAct):Option Bool:=
Option.bind (α:=Unit⊕Bool) (zE (λ s4=>wH x0 s4) (0:Int)) (Sum.elim (λ _b2=>
some (cmpI .leq (x0.length:Int) 20)) some)
theorem zaa{r}(h:ZN x0=some r):Fn prog 66 [dt x0] (dt r):=by
 refine fq1 1 func66 λ M w0 _ j=>?_
 refine j.z1 (λ j=>za ?_)
 refine j.jbq 1 [0] (λ _=>[]) (λ _ _=>[]) h (λ o2 p2 k2=>?_) λ b2 q2 _ _ _ j h=>?_
 ·refine j.z1 λ j=>?_
  refine wql p2 (λ s4 a w=>∃ M1 Q,Sx (Frm.of w0) 38 M M1 [oneB Q] [(0,dt x0),(6,dt x0),(7,dt (x0.length:Int)),(8,dt s4)] [] a w) fx ?_
  rintro s4 z4 _ _ ⟨_,Q,j⟩ hs4 hx4
  have h:wH x0 s4=some z4:=hs4
  unfold wH at h
  refine j.zc h (λ j h=>?_) λ j h=>?_
  ·have⟨v9,p9,h⟩:=bs h
   refine QY<|j.zg 2 λ j=>?_
   refine j.alA 0 zrGAct [0,6,7,8,11] [] λ b3 j=>?_
   refine j.stA 4 0 FldS.id (tp Z) [0,6,7,8] [] (λ j=>Wz ?_)
   refine j.zo [(4,0)] (λ j=>za ?_)
   refine j.jmq 1 [0,6,7,8] (λ a8=>[(5,dt a8)]) (λ _ _=>[]) h (λ a8 a9=>?_) λ a8 b5 _ _ _ j h=>?_
   ·refine j.zo [(4,0)] λ j=>?_
    refine j.zd [(4,0)] a9 (λ j h=>?_) λ j h=>?_
    ·have⟨b6,b7,h⟩:=bs h
     refine j.z1 λ j=>?_
     cases h
     exact fz
    refine j.zd [(4,0)] h (λ j h=>?_) λ j h=>?_
    ·refine j.z1 λ j=>?_
     cases h
     exact fz
    refine j.zd [(4,0)] h (λ j h=>?_) λ j h=>?_
    ·have⟨b8,b9,h⟩:=bs h
     refine j.z1 λ j=>?_
     cases h
     exact fz
    refine j.zd [(4,0)] h (λ j h=>?_) λ j h=>?_
    ·have⟨c8,d1,h⟩:=bs h
     refine j.z1 λ j=>?_
     cases h
     exact fz
    cases h
    exact fz
   refine j.zc h (λ j h=>?_) λ j h=>?_
   ·exact j.ze (jo (lo h hx4) k2)
   have⟨d2,d3,h⟩:=bs h
   exact j.zn [] h
  have h:=lo h hx4
  exact flz h
 exact j.ze h
instance:Ct1 prog 66 dt dt ZN:=⟨λ h=>zaa h⟩
def W4(x0:List GAct)(x1:Int):Option Bool:=
(ZN x0).bind λ v2=>
(gO (v2 == true) (yg x1 (0:Int) (4:Int))).bind λ v3=>
some (v2&&v3)
theorem zcg{r}(h:W4 x0 x1=some r):Fn prog 36 [dt x0,dt x1] (dt r):=by
 refine fq1 0 func36 λ M _ _ j=>?_
 refine j.z1 λ j=>?_
 have⟨v2,p2,v3,p3,h⟩:=Ke h
 exact j.ze h (hs:=sZ 1 (r:=by exact sc Z (oK (zaa p2))<|sZ 2 (r:=by exact sg Z Z (λ hg=>oK (yQ (gh hg p3)))<|segZ)))
instance:Ct2 prog 36 dt dt dt W4:=⟨λ h=>zcg h⟩
def wl(x0:Disk):Option Bool:=
(xj x0.tree).bind λ v2=>
(gO (v2 == true) (yg x0.clock (0:Int) (200:Int))).bind λ v3=>
(gO ((v2&&v3) == true) (Xx x0.dirs x0.clock (0:Int))).bind λ v4=>
some ((v2&&v3)&&v4)
theorem WO{x0 r}(h:wl x0=some r):Fn prog 130 [dt x0] (dt r):=by
 refine fq1 0 func130 λ M _ _ j=>?_
 refine j.z1 λ j=>?_
 have⟨v2,p2,v3,p3,h⟩:=Ke h
 have⟨v4,p4,h⟩:=bs h
 exact j.ze h (hs:=sZ 2 (r:=by exact sc Z (oK (wX p2))<|sZ 3 (r:=by exact sg Z Z (λ hg=>oK (yQ (gh hg p3)))<|sZ 6 (r:=by exact sg Z Z (λ hg=>oK (zce (gh hg p4)))<|segZ))))
instance:Ct1 prog 130 dt dt wl:=⟨λ h=>WO h⟩
def j9(x0:File):Option File:=
(yK x0.body).bind λ v4=>
some ({ x0 with body:=v4 })
theorem WP{x0 r}(h:j9 x0=some r):Fn prog 197 [dt x0] (dt r):=by
 refine fq1 2 func197 λ M _ _ j=>?_
 refine QY<|j.boxD 0 Z Z T [] Z [] Z Z λ b1 _ _ _ j=>?_
 refine j.alA 1 Js [] [1] (λ b3 j=>Wz ?_)
 have⟨v4,p4,h⟩:=bs h
 refine QY<|j.zh 4 [(1,0),(2,1),(6,0)] (λ j=>?_) (hs:=sZ 2 (r:=by exact sc Z (zA (l:=[.tmp 4]) Z (.cons T .nil) ((j0 p4)).fn)<|segZ))
 refine j.stA 1 0 File.set5 (tp Z) [] [2] (λ j=>Wz ?_)
 refine QY<|j.zh 1 [(2,1)] λ j=>?_
 refine j.stA 2 1 FldS.id (tp Z) [] [] (λ j=>Wz ?_)
 exact j.yB h
instance:Ct1 prog 197 dt dt j9:=⟨λ h=>WP h⟩
def wI(x0:Tree)(a8:Tree×Int):Option ((Tree×Int)⊕Tree):=
if(cmpI .lss a8.2 (x0.files.length:Int))=true then((atI x0.files a8.2).bind λ a9=>
(j9 a9).bind λ b3=>
(appO 80 a8.1.files ([b3]:List File)).bind λ b5=>
(i64 (a8.2+(1:Int))).bind λ b6=>
some (.inl ((⟨b5⟩:Tree),b6)))
else(some (.inr a8.1))
def qa(x0:Tree):Option Tree:=
Option.bind (α:=Tree) (zE (λ a8=>wI x0 a8) ((⟨[]⟩:Tree),(0:Int))) λ a9=>
some a9
theorem WQ{x0 r}(h:qa x0=some r):FnN prog 171 [dt x0] (.ow (owTree (Ow.row 45 (Ow.frz (α:=File)))) r):=by
 refine fnN (fn:=f171) 6 func171 Z Z (λ M w0 _ j=>wqw ?_)
 refine QY<|j.zg 1 λ j=>?_
 refine j.alcW (ow:=(owTree (Ow.row 45 (Ow.frz (α:=File))))) 3 (owTree.z Ow.row_z) [1] [] λ b2 _ _ _ j=>?_
 refine Wz<|QY<|j.zh 1 [(2,3),(6,0)] (λ j=>?_) (hs:=sc Z (xt (α:=File) (e:=45) Z)<|.nil)
 have j:=j.tipW (s:=6) 0 (hG:=(λ _ h=>(by cases h))) [2]
 refine j.bldW (ow:=(owTree (Ow.row 45 (Ow.frz (α:=File))))) (parts:=[(0,.tmp 6)]) (ns:=[1]) (zs:=J6) (x:=(⟨[]⟩:Tree)) 1 [0] (FA ⟨by decide,Ow.len _ (yW (j.st.has 6 _ Z))⟩ FN) (((owTree (Ow.row 45 (Ow.frz (α:=File))))).more (owTree.mk (x:=(⟨[]⟩:Tree)) (yW (j.st.has 6 _ Z))) (λ b=>(λ hb=>⟨0,by simp,hb⟩))) [1] [2] (@λ G5 _ _ j=>?_)
 have j:=j.gs (Gs':=[oneB none,G5,oneB none,(oneB (some b2)),oneB none,oneB none])
 have j:=j.gs (Gs':=[oneB none,G5,oneB none,(oneB (some b2)),oneB none,oneB none])
 refine j.alcW (ow:=(owTree (Ow.row 45 (Ow.frz (α:=File))))) 4 (owTree.z Ow.row_z) [1] [2,7] λ b9 _ _ _ j=>?_
 refine j.stO (sb:=3) (tv:=7) 4 1 Pb (zt Z) [1] [2] λ j=>?_
 refine Wz<|za ?_
 have⟨b5,b6,b7⟩:=bs h
 refine wqj (λ a w=>∃ M1 Q R W X Y A,Sx (Frm.of w0) 24 M M1 [Q,R,W,X,Y,oneB A] [] [(2,3,dow (Ow.box (owTree (Ow.row 45 (Ow.frz (α:=File))))) X ⟨je⟩),(3,4,dow (Ow.box (owTree (Ow.row 45 (Ow.frz (α:=File))))) Y ⟨b5⟩)] a w) ?_ ?_
 ·refine j.zo [(2,3),(3,4)] λ j=>?_
  have j:=j.unm (s:=2) 3 [3]
  have j:=j.unm (s:=3) 4 [2]
  refine wql b6 (λ a8 a w=>∃ M1 Q R W X Y A,Sx (Frm.of w0) 24 M M1 [Q,R,W,X,Y,oneB A] [(9,dt x0.files),(10,dt (x0.files.length:Int)),(11,dt a8.2)] [(2,3,dow (Ow.box (owTree (Ow.row 45 (Ow.frz (α:=File))))) X ⟨je⟩),(3,4,dow (Ow.box (owTree (Ow.row 45 (Ow.frz (α:=File))))) Y ⟨a8.1⟩)] a w) fx ?_
  rintro a8 b8 _ _ ⟨_,Q,R,W,X,Y,A,j⟩ a9 b3
  have h:wI x0 a8=some b8:=a9
  unfold wI at h
  refine j.zd [(2,3),(3,4)] h (λ j h=>?_) λ j h=>?_
  ·have⟨d3,d4,h⟩:=bs h
   refine QY<|j.zh 2 [(2,3),(3,4)] λ j=>?_
   refine j.alA 5 Js [9,10,11,14] [2,3] λ d5 j=>?_
   refine j.stA 5 5 FldS.id (tp Z) [9,10,11] [2,3] (λ j=>Wz ?_)
   have⟨d6,c8,h⟩:=bs h
   refine j.nmB (s:=3) 4 [2,5] λ d7 j=>?_
   refine j.hdA 3 4 (Pb.fld owTree.f0) [2,5] λ e0 e3 _ d1 j=>?_
   refine j.zu 5 [(2,3),(3,4)] (λ j=>?_) (hs:=sw Z (xFa Z qr U)<|sw Z (xLc (sb:=3) (.head _) Z Z Z T Z)<|sV 1 (r:=by exact sw Z (zA (l:=[.tmp 17]) Z (.cons T .nil) (WP c8))<|sw Z (xH (opds:=[.tmp 18]) Z Z Z (.cons T .nil))<|.nil))
   refine j.mvG (s:=16) (sb:=3) 4 2 (Pb.fld owTree.f0) (.head _) (zT Z Z) [9,10,11,19] [2] λ j=>?_
   refine j.tipR (s:=16) 2 (by first | (simp;done) | exact oD rfl) [2,3] λ e4 j=>?_
   have⟨e5,d2,h⟩:=bs h
   refine j.apA 2 yI d2 [9,10,11] [2,3] λ e6 j=>?_
   refine j.zh 1 [(2,3),(3,4),(20,2)] (λ j=>?_) (hs:=sc Z (xFa Z qr (zbc Z))<|.nil)
   have j:=j.tipW (s:=20) 2 [2,3]
   refine j.shA 3 20 4 2 (tp Z) [9,10,11] [2] λ j=>?_
   have⟨e7,e8,h⟩:=bs h
   refine Wz<|j.zo [(2,3),(3,4)] λ j=>?_
   have j:=j.unm (s:=3) 4 [2]
   exact flz h
  have h:=lo h b3
  cases h
  exact fz
 rintro _ _ ⟨_,Q,R,W,X,Y,A,j⟩
 have h:=b7
 refine QY<|j.nmB (s:=3) 4 [2] λ e9 j=>?_
 refine j.ldW (sb:=3) 4 [] [2] λ j=>?_
 refine j.nmB (s:=2) 3 [23] λ f9 j=>?_
 refine j.stO (sb:=2) (tv:=23) 3 4 Pb (zt Z) [] [] λ j=>?_
 exact Wz<|j.rnC 3 h
def YX(x0:Tree)(x1:File):Option (Tree×Bool):=
(qa x0).bind λ v8=>
(j9 x1).bind λ b3=>
(appO 80 v8.files ([b3]:List File)).bind λ a8=>
(xj x0).bind λ a9=>
(gO ((!a9) == false) (xj (⟨a8⟩:Tree))).bind λ b5=>
if((!a9)||(!b5))=true then(some ((⟨[]⟩:Tree),false))
else(some ((⟨a8⟩:Tree),true))
theorem zfo{x0 x1 r}(h:YX x0 x1=some r):Fn prog 167 [dt x0,dt x1] (dtup [dt r.1,dt r.2]):=by
 refine fq1 4 func167 λ M _ _ j=>?_
 refine QY<|j.zg 2 λ j=>?_
 refine j.alA 2 xI [2,3] [] λ b3 j=>?_
 refine j.zh 1 [(4,2)] (λ j=>Wz ?_)
 refine QY<|j.zh 1 [(4,2)] λ j=>?_
 have⟨v8,p8,h⟩:=bs h
 refine j.cN (l:=[.tmp 7]) 0 (.cons T .nil) (WQ p8) [2,3] [4] λ j=>?_
 refine j.alcW (ow:=(owTree (Ow.row 45 (Ow.frz (α:=File))))) 3 (owTree.z Ow.row_z) [2,3] [4,8] λ b8 _ _ _ j=>?_
 refine j.stO (sb:=6) (tv:=8) 3 0 Pb (zt Z) [2,3] [4] λ j=>?_
 have⟨b9,a8,h⟩:=bs h
 refine Wz<|j.hdA 6 3 (Pb.fld owTree.f0) [4] λ c8 d1 _ a9 j=>?_
 refine j.zu 5 [(4,2),(6,3)] (λ j=>?_) (hs:=sw Z (xFa Z qr U)<|sw Z (xLc (sb:=6) (.head _) Z Z Z T Z)<|sV 1 (r:=by exact sw Z (zA (l:=[.tmp 11]) Z (.cons T .nil) (WP a8))<|sw Z (xH (opds:=[.tmp 12]) Z Z Z (.cons T .nil))<|.nil))
 refine j.mvG (s:=10) (sb:=6) 3 1 (Pb.fld owTree.f0) (.head _) (zT Z Z) [2,13] [4] λ j=>?_
 refine j.tipR (s:=10) 1 (by first | (simp;done) | exact oD rfl) [4,6] λ d2 j=>?_
 have⟨d3,b5,h⟩:=bs h
 refine j.apA 1 yI b5 [2] [4,6] λ d4 j=>?_
 refine j.zh 1 [(4,2),(6,3),(14,1)] (λ j=>?_) (hs:=sc Z (xFa Z qr (zbc Z))<|.nil)
 have j:=j.tipW (s:=14) 1 [4,6]
 refine j.shA 6 14 3 1 (tp Z) [2] [4] λ j=>?_
 have j:=j.unm (s:=6) 3 [4]
 have j:=j.frzB (s:=6) 3 [2] [4]
 have⟨d5,b6,d6,b7,h⟩:=Ke h
 refine Wz<|j.zd [(4,2)] h (λ j h=>?_) (λ j h=>?_) (hs:=sZ 1 (r:=by exact sc Z (oK (wX b6))<|sZ 3 (r:=by exact sg Z Z (λ hg=>oK (wX (gh hg b7)))<|segZ)))
 ·refine QY<|j.zh 1 [(4,2)] (λ j=>?_) (hs:=sc Z (yf (parts:=[]) (ns:=[1]) (zs:=J6) Z Z (λ w a hl=>by simp) (λ w a hl=>Tree.parts (x:=(⟨[]⟩:Tree)) yA))<|.nil)
  refine j.stA 4 2 FldS.id (tp Z) [] [] λ j=>?_
  refine j.zh 1 [(4,2)] (λ j=>Wz ?_)
  cases h
  exact j.y2
 refine QY<|j.zh 1 [(4,2)] λ j=>?_
 refine j.stA 4 2 FldS.id (tp Z) [] [] λ j=>?_
 refine j.zh 1 [(4,2)] (λ j=>Wz ?_)
 cases h
 exact j.y2
instance:Ct2 prog 167 dt dt (λ r=>dtup [dt r.1,dt r.2]) YX:=⟨λ h=>zfo h⟩
def wJ(x0:List Dir)(s6:(List Dir)×Int):Option (((List Dir)×Int)⊕(List Dir)):=
if(cmpI .lss s6.2 (x0.length:Int))=true then((atI x0 s6.2).bind λ a8=>
(appO 16 [] a8.names).bind λ a9=>
(appO 56 s6.1 [{ a8 with names:=a9 }]).bind λ b3=>
(i64 (s6.2+(1:Int))).bind λ b5=>
some (.inl (b3,b5)))
else(some (.inr s6.1))
def ZO(x0:List Dir):Option (List Dir):=
Option.bind (α:=(List Dir)) (zE (λ s6=>wJ x0 s6) ([],(0:Int))) λ o3=>
some o3
theorem Xd{x0 r}(h:ZO x0=some r):FnN prog 129 [dt x0] (.ow (Ow.row 166 (owDir oSs)) r):=by
 refine fnN (fn:=f129) 5 func129 Z Z (λ M w0 _ j=>wqw ?_)
 refine j.rg2 (sc Z (oA Z (wu (α:=Dir)))<|.nil) [0] λ _ _ j=>?_
 refine j.rgB (sc Z (xt (α:=Dir) (e:=166) Z)<|segZ) [0] [(3,0)] (λ j=>za ?_)
 have⟨o3,p3,k3⟩:=bs h
 refine wqj (λ a w=>∃ M1 Q R W X Y,Sx (Frm.of w0) 24 M M1 [Q,R,W,X,Y] [] [(3,0,dow (Ow.row 166 (owDir oSs)) Q o3)] a w) ?_ ?_
 ·have j:=j.tip0 (s:=3) (e':=166) (oy:=(owDir oSs)) 0 Z Z [] Z
  refine j.rgA [7,8,9] [(3,0)] λ j=>?_
  refine wql p3 (λ s6 a w=>∃ M1 Q R W X Y,Sx (Frm.of w0) 24 M M1 [Q,R,W,X,Y] [(7,dt x0),(8,dt (x0.length:Int)),(9,dt s6.2)] [(3,0,dow (Ow.row 166 (owDir oSs)) Q s6.1)] a w) fx ?_
  rintro s6 z6 _ _ ⟨_,Q,R,W,X,Y,j⟩ hs6 hx6
  have h:wJ x0 s6=some z6:=hs6
  unfold wJ at h
  refine j.rgA [7,8,9,10] [(3,0)] λ j=>?_
  refine j.cq h (λ h=>?_) λ h=>?_
  ·have⟨a8,c8,h⟩:=bs h
   refine QY<|j.segA 2 [7,8,9,12] [(3,0)] λ j=>?_
   refine j.alcW (ow:=(owDir oSs)) 4 (owDir.z Ow.row_z) [7,8,9,12] [3] λ d1 _ _ _ j=>?_
   refine j.stFz (ow2:=(owDir (Ow.frz (α:=List Str)))) (sb:=5) 4 owDir.ofR Z Z Z kT166 Z (tp Z) (λ _ h=>h) [7,8,9] Z [3] Z Z (λ _ j=>Wz ?_)
   have j:=j.rst 1 [7,8,9] [3,5]
   refine QY<|j.segB 3 (sc Z (xt (α:=Str) (e:=9) Z (ht':=WC))<|sc Z (xFa Z zbN U)<|sc Z (xLf (sb:=5) (Pb.fld owDir.f3) Z T Z)<|.nil) [7,8,9,15] [(3,0),(5,4),(13,1)] λ j=>?_
   have⟨a9,b3,h⟩:=bs h
   refine j.apA 1 yI b3 [7,8,9] [3,5] λ d2 j=>?_
   refine j.segB 1 (sc Z (xFa Z zbN U)<|.nil) [7,8,9,17] [(3,0),(5,4),(16,1)] λ j=>?_
   have j:=j.tipW (s:=16) 1 [3,5]
   refine j.stTk (off:=3) (ow2:=(owDir oSs)) (x2:={ a8 with names:=a9 }) (sb:=5) (tv:=16) 4 1 owDir.tk Z Z Z kT101 (tp Z) Z Z (λ _ h=>h) (λ _ h=>h) [7,8,9] Z [3] Z Z Z λ _ _ j=>?_
   refine Wz<|QY<|j.nmR (s:=3) 0 [5] λ d3 d4 _ b5 j=>?_
   refine j.segA 1 [7,8,9] [(3,0),(5,4),(18,0)] λ j=>?_
   refine j.ldW (sb:=5) 4 [7,8,9] [3,18] λ j=>?_
   refine j.litW (oe:=(owDir oSs)) (opds:=[.tmp 19]) (xs:=[{ a8 with names:=a9 }]) 3 [4] kI66 kY66 (Jl (yW (j.st.has 19 _ Z)) (λ b hb=>⟨4,by simp,hb⟩)) (λ q hq=>by
 simp only[am,aS,ch] at hq
 subst hq
 exact Ow.len _ (yW (j.st.has 19 _ Z))) [7,8,9] [3,18] (@λ b6 _ _ _ j=>?_)
   have j:=j.gs (Gs':=[Q,oneB none,W,b6,oneB none])
   have j:=j.unm (s:=18) 0 [20]
   have⟨d5,b7,h⟩:=bs h
   refine j.appW 0 3 b7 [7,8,9] [] λ _ _ _ _ j=>?_
   refine j.nmR (s:=21) 0 [] λ d6 d7 _ b8 j=>?_
   refine j.segA 1 [7,8,9] [(3,0)] (λ j=>Wz ?_)
   have⟨e0,e3,h⟩:=bs h
   refine j.rgA [7,8,9] [(3,0)] λ j=>?_
   have j:=j.unm (s:=3) 0 []
   exact flz h
  have h:=lo h hx6
  cases h
  exact fz
 rintro _ _ ⟨_,Q,R,W,X,Y,j⟩
 have h:=k3
 refine j.nmR (s:=3) 0 [] λ e4 e5 _ b9 j=>?_
 refine j.rgA [] [(2,0)] λ j=>?_
 have j:=j.unm (s:=2) 0 []
 exact j.rnO 0 h
def xn(x2:File)(b7:List Str)(a8:Disk×Int):Option ((Disk×Int)⊕Disk):=
if(cmpI .lss a8.2 (b7.length:Int))=true then((atI b7 a8.2).bind λ b8=>
(qT a8.1.dirs x2.root b8).bind λ b9=>
Option.bind (α:=Disk×Int) (if cmpI .lss b9 0 then((appO 56 a8.1.dirs ([(⟨x2.root,b8,0,([]:List Str)⟩:Dir)]:List Dir)).bind λ b3=>
some ({ a8.1 with dirs:=b3 },(a8.1.dirs.length:Int)))
else(some (a8.1,b9))) λ a9=>
(atI a9.1.dirs a9.2).bind λ b5=>
(i64 (a8.2+(1:Int))).bind λ b6=>
some (.inl ({ a9.1 with dirs:=(a9.1.dirs.set a9.2.toNat ({ b5 with stamp:=a9.1.clock })) },b6)))
else(some (.inr a8.1))
def ZP(x0:Disk)(x1:Tree)(x2:File)(x3:Int):Option (Disk×Bool):=
if cmpI .gtr x3 200 then(some ((⟨je,0,[]⟩:Disk),false))
else((i64 (x0.clock+x3)).bind λ b3=>
(ZO x0.dirs).bind λ b5=>
Option.bind (α:=Disk) ((jx x2.pkg).bind λ b6=>
(appO 16 [(⟨[]⟩:Str)] b6).bind λ b7=>
zE (λ b8=>xn x2 b7 b8) ((⟨x1,b3,b5⟩:Disk),(0:Int))) λ a9=>
(wl a9).bind λ a8=>
if(!a8)=true then(some ((⟨je,0,[]⟩:Disk),false))
else(some (a9,true)))
theorem zfp{x0 x1 x2 r}(h:ZP x0 x1 x2 x3=some r):Fn prog 168 [dt x0,dt x1,dt x2,dt x3] (dtup [dt r.1,dt r.2]):=by
 refine fq1 6 func168 λ M w0 _ j=>?_
 refine QY<|j.zg 3 λ j=>?_
 refine j.alA 4 Zh [3,4,5,6] [] λ b3 j=>?_
 refine j.zh 1 [(8,4)] (λ j=>Wz ?_)
 refine j.zd [(8,4)] h (λ j h=>?_) λ j h=>?_
 ·refine QY<|j.zh 1 [(8,4)] (λ j=>?_) (hs:=sc Z (yf (parts:=[]) (ns:=[1,1,1]) (zs:=ZC) Z Z (λ w a hl=>by simp) (λ w a hl=>Disk.parts (x:=(⟨je,0,[]⟩:Disk)) (xI _ _) ⟨Z,trivial⟩ yA))<|.nil)
  refine j.stA 8 4 FldS.id (tp Z) [] [] λ j=>?_
  refine j.zh 1 [(8,4)] (λ j=>Wz ?_)
  cases h
  exact j.y2
 refine j.heldF zN λ b6 _ hz13 j=>?_
 refine j.tkLp (i:=0) (j.fzS (g:=70)) hz13 (tp Z) λ j=>?_
 refine j.tkFp (i:=1) (j.fzS (g:=70)) Disk.fld1 zbj (tp Z) (next:=@λ a15 j=>?_)
 refine j.tkLp (i:=2) (j.fzS (g:=70)) hz13 (tp Z) λ j=>?_
 refine j.tM 3 3 (j.fzS (g:=70)) λ _ j=>?_
 have⟨a8,e8,h⟩:=bs h
 refine j.tkAr (op:=.add) (i:=4) (j.fzS (g:=70)) (tp Z) (tp Z) e8 (next:=@λ a19 j=>?_)
 refine j.tkFp (i:=5) (j.fzS (g:=70)) Disk.fld2 Wi (tp Z) (next:=@λ a21 j=>?_)
 refine j.tkLp (i:=6) (j.fzS (g:=70)) hz13 (tp Z) λ j=>?_
 have⟨a9,e3,h⟩:=bs h
 refine ws 1 1023 (λ a w=>∃ M1 R Y A,Sx (Frm.of w0) 70 M M1 [oneB none,R,oneB none,oneB none,oneB Y,A] [(6,dptr x2),(70,dfz b6)] [(8,4,dbox Y 0 xB),(10,5,dow (Ow.box (owDisk (Ow.frz (α:=Tree)) oDs)) A ⟨xB⟩),(25,1,dow (owDisk (Ow.frz (α:=Tree)) oDs) R (⟨x1,a8,a9⟩:Disk))] a w) ?_ λ n55=>?_
 ·rintro _ _ ⟨_,R,Y,A,j⟩
  refine aK1 10 ?_
  refine j.nmB (s:=10) 5 [8,25] λ j5 j=>?_
  refine j.stO (sb:=10) (tv:=25) 5 1 Pb (zt Z) [6,70] [8] @λ e9 _ j=>?_
  have j:=j.unm (s:=10) 5 [8]
  refine aHN (j.fzS (g:=70)) ?_
  refine aK0<|za ?_
  have⟨f9,g3,g4⟩:=bs h
  refine wqj (λ a w=>∃ M1 Q R W X Y A,Sx (Frm.of w0) 70 M M1 [Q,R,W,X,oneB Y,A] [] [(8,4,dbox Y 0 xB),(10,5,dow (Ow.box (owDisk (Ow.frz (α:=Tree)) oDs)) A ⟨f9⟩)] a w) ?_ ?_
  ·refine QY<|j.litW (oe:=(Ow.frz (α:=Str))) (opds:=[_]) (xs:=[(⟨[]⟩:Str)]) 2 [] kI101 kY101 (Jl (oe:=(Ow.frz (α:=Str))) (G1:=noB) (OpdR.cells (yS) (λ s y hs=>j.st.has s y hs)) (λ _ h=>h.elim)) (λ q hq=>by
 simp only[am,aS,ch] at hq
 subst hq
 exact Rep.len (OpdR.cells (yS) (λ s y hs=>j.st.has s y hs))) [6] [8,10] (@λ g5 _ _ _ j=>?_)
   have j:=j.gs (Gs':=[oneB none,oneB none,g5,oneB none,oneB Y,e9])
   have⟨j6,g6,h⟩:=bs g3
   refine j.zh 3 [(8,4),(10,5),(26,2)] (λ j=>?_) (hs:=sZ 2 (r:=by exact sc Z (zA (l:=[.tmp 28]) Z (.cons T .nil) ((zdn g6)).fn)<|.nil))
   refine j.tipR (s:=26) 2 (by first | (simp;done) | exact oD rfl) [8,10] λ j7 j=>?_
   have⟨b7,g7,h⟩:=bs h
   refine j.apA 2 yI g7 [6] [8,10] λ k0 j=>?_
   refine j.zh 2 [(8,4),(10,5),(30,2)] (λ j=>?_) (hs:=sc Z (zbJ Z T)<|segZ)
   refine Wz ?_
   have j:=j.tipW (s:=30) 2 [8,10]
   refine wql h (λ b8 a w=>∃ M1 Q R W X Y A,Sx (Frm.of w0) 70 M M1 [Q,R,W,X,oneB Y,A] [(6,dptr x2),(31,dt (b7.length:Int)),(32,dt b8.2)] [(8,4,dbox Y 0 xB),(10,5,dow (Ow.box (owDisk (Ow.frz (α:=Tree)) oDs)) A ⟨b8.1⟩),(30,2,dow oSs W b7)] a w) fx ?_
   rintro b8 g8 _ _ ⟨_,Q,R,W,X,Y,A,j⟩ d3 d4
   have h:xn x2 b7 b8=some g8:=d3
   unfold xn at h
   refine j.zd [(8,4),(10,5),(30,2)] h (λ j h=>?_) λ j h=>?_
   ·have⟨k1,e4,h⟩:=bs h
    refine j.nmR (s:=30) 2 [8,10] λ k3 k4 _ b9 j=>?_
    refine j.zo [(8,4),(10,5),(30,2)] (λ j=>?_) (hs:=sc Z (xIaN Z WC Z T b9 e4)<|sc Z (xLf (sb:=30) (PV.root.row Z b9 e4) Z T Z)<|segZ)
    have⟨k5,g9,h⟩:=bs h
    refine j.nmB (s:=10) 5 [8,30] λ k6 j=>?_
    refine j.hdA 10 5 (Pb.fld owDisk.f2) [8,30] λ k7 k8 _ h0 j=>?_
    refine j.zo [(8,4),(10,5),(30,2)] (λ j=>?_) (hs:=sc Z (xFa Z Wi U)<|sc Z (xLc (sb:=10) (.head _) Z Z Z T Z)<|sZ 3 (r:=by exact sc Z (yV (l:=[.tmp 37,.tmp 39,.tmp 40]) j.ob.sub Z (.cons (zaL (sb:=10) j.ob 5 (Pb.fld owDisk.f2) (.head _) Z (zT Z Z) T Z) (.cons (xf j.ob.sub T) (.cons (xf j.ob.sub T) .nil))) (JJ g9) jK)<|segZ))
    refine za ?_
    have j:=j.ncf (s:=10) 5 [8,30]
    have⟨e5,h3,h4⟩:=bs h
    refine wqj (λ a w=>∃ M1 Q R W X Y A,Sx (Frm.of w0) 70 M M1 [Q,R,W,X,oneB Y,A] [(6,dptr x2),(13,dt e5.2),(31,dt (b7.length:Int)),(32,dt b8.2)] [(8,4,dbox Y 0 xB),(10,5,dow (Ow.box (owDisk (Ow.frz (α:=Tree)) oDs)) A ⟨e5.1⟩),(30,2,dow oSs W b7)] a w) ?_ ?_
    ·refine j.zd [(8,4),(10,5),(30,2)] h3 (λ j h=>?_) λ j h=>?_
     ·refine j.hdA 10 5 (Pb.fld owDisk.f2) [8,30] λ h5 h6 _ e6 j=>?_
      refine j.zo [(8,4),(10,5),(30,2)] (λ j=>?_) (hs:=sc Z (xFa Z Wi U)<|sc Z (xLc (sb:=10) (.head _) Z Z Z T Z)<|sc Z (xLe Z T)<|segZ)
      have j:=j.ncf (s:=10) 5 [8,30]
      refine QY<|j.hdA 10 5 (Pb.fld owDisk.f2) [8,30] λ h7 h8 _ e7 j=>?_
      refine j.zh 8 [(8,4),(10,5),(30,2)] (λ j=>?_) (hs:=sc Z (xFa Z Wi U)<|sc Z (xLc (sb:=10) (.head _) Z Z Z T Z)<|sZ 3 (r:=by exact sc Z (xH (opds:=[]) (α:=Str) Z (ht':=WC) Z Z .nil)<|sc Z (kD166_0_1_3 Z T T T)<|segZ))
      refine j.mvG (s:=48) (sb:=10) 5 3 (Pb.fld owDisk.f2) (.head _) (zT Z Z) [6,13,31,32,54] [8,30] @λ d5 H108 j=>?_
      have j:=j.gs (Gs':=[Q,R,W,H108,oneB Y,d5])
      refine j.tipR (s:=48) 3 (by first | (simp;done) | exact oD rfl) [8,10,30] λ h9 j=>?_
      have⟨i0,d6,h⟩:=bs h
      refine j.apA 3 yI d6 [6,13,31,32] [8,10,30] λ i3 j=>?_
      refine j.zh 1 [(8,4),(10,5),(30,2),(55,3)] (λ j=>?_) (hs:=sc Z (xFa Z Wi (zbc Z))<|.nil)
      have j:=j.tipW (s:=55) 3 [8,10,30]
      refine j.shA 10 55 5 3 (tp Z) [6,13,31,32] [8,30] λ j=>?_
      refine Wz ?_
      have j:=j.unm (s:=10) 5 [8,30]
      have j:=j.unm (s:=30) 2 [8,10]
      cases h
      exact fz
     have j:=j.unm (s:=10) 5 [8,30]
     have j:=j.unm (s:=30) 2 [8,10]
     cases h
     exact fz
    rintro _ _ ⟨_,Q,R,W,X,Y,A,j⟩
    have h:=h4
    have⟨i4,c8,h⟩:=bs h
    refine QY<|j.nmB (s:=10) 5 [8,30] λ i5 j=>?_
    refine j.hdA 10 5 (Pb.fld owDisk.f2) [8,30] λ d7 i6 _ b5 j=>?_
    refine j.zh 7 [(8,4),(10,5),(30,2)] (λ j=>?_) (hs:=sc Z (xFa Z Wi U)<|sc Z (xLc (sb:=10) (.head _) Z Z Z T Z)<|sZ 1 (r:=by exact sc Z (xFa Z zbj U)<|sc Z (xLf (sb:=10) (Pb.fld owDisk.f1) Z T Z)<|sc Z (xIa (g:=d7) Z kS66 T T Z (λ h=>b5 h Z) c8)<|segZ))
    refine j.sfA 10 5 (((Pb.fld owDisk.f2).row (.head _) Z (λ h=>b5 h Z) c8).fld Dir.z2) (tp Z) (tp Z) [6,31,32] [8,30] (λ j=>Wz ?_)
    have⟨i7,i8,h⟩:=bs h
    refine j.zo [(8,4),(10,5),(30,2)] λ j=>?_
    have j:=j.unm (s:=10) 5 [8,30]
    exact flz h
   have h:=lo h d4
   cases h
   exact fz
  rintro _ _ ⟨_,Q,R,W,X,Y,A,j⟩
  have h:=g4
  have⟨i9,e0,h⟩:=bs h
  refine j.nmB (s:=10) 5 [8] λ j1 j=>?_
  refine j.hdW (s:=10) 5 true (λ _=>Pb) [8] λ cs139 hS139 j=>?_
  refine j.zo [(8,4),(10,5)] (λ j=>?_) (hs:=sc Z (xLw (sb:=10) (.head _) Z (hS139 Z) Z U Z)<|sc Z (yV (l:=[.tmp 65]) j.ob.sub Z (.cons (zaL (sb:=10) j.ob 5 Pb (.head _) Z (Qc Z (hS139 Z)) T Z) .nil) (WO e0) ZA)<|segZ)
  have j:=j.ncf (s:=10) 5 [8]
  refine j.cq h (λ h=>?_) λ h=>?_
  ·refine QY<|j.zh 1 [(8,4)] (λ j=>?_) (hs:=sc Z (yf (parts:=[]) (ns:=[1,1,1]) (zs:=ZC) Z Z (λ w a hl=>by simp) (λ w a hl=>Disk.parts (x:=(⟨je,0,[]⟩:Disk)) (xI _ _) ⟨Z,trivial⟩ yA))<|.nil)
   refine j.stA 8 4 FldS.id (tp Z) [] [] λ j=>?_
   refine j.zh 1 [(8,4)] (λ j=>Wz ?_)
   cases h
   exact j.y2
  have j:=j.unm (s:=10) 5 [8]
  have j:=j.frzB (s:=10) 5 [67] [8]
  refine QY<|j.zh 1 [(8,4)] λ j=>?_
  refine j.stA 8 4 FldS.id (tp Z) [] [] λ j=>?_
  refine j.zh 1 [(8,4)] (λ j=>Wz ?_)
  cases h
  exact j.y2
 refine ws 2 511 (λ a w=>∃ M1 R Y,Sx (Frm.of w0) 70 M M1 [oneB none,R,oneB none,oneB none,oneB Y,oneB none] [(6,dptr x2),(70,dfz b6)] [(8,4,dbox Y 0 xB),(25,1,dow (owDisk (Ow.frz (α:=Tree)) oDs) R (⟨x1,a8,a9⟩:Disk))] a w) ?_ λ n45=>?_
 ·rintro _ _ ⟨_,R,Y,j⟩
  refine aK1 9 ?_
  refine j.alcW (ow:=(owDisk (Ow.frz (α:=Tree)) oDs)) 5 (owDisk.z xI Ow.row_z) [6,70] [8,25] λ j2 _ _ _ j=>?_
  have j:=j.unm (s:=10) 5 [8,25]
  exact aHe n55 (j.fzS (g:=70))
 refine ws 2 767 (λ a w=>∃ M1 Q Y A,Sx (Frm.of w0) 70 M M1 [Q,oneB none,oneB none,oneB none,oneB Y,A] [(6,dptr x2),(17,dt x1),(21,dt a8),(70,dfz b6)] [(8,4,dbox Y 0 xB),(10,5,dow (Ow.box (owDisk (Ow.frz (α:=Tree)) oDs)) A ⟨xB⟩),(24,0,dow oDs Q a9)] a w) ?_ λ n49=>?_
 ·rintro _ _ ⟨_,Q,Y,A,j⟩
  refine aK1 8 ?_
  refine j.bldW (ow:=(owDisk (Ow.frz (α:=Tree)) oDs)) (parts:=[(0,.tmp 17),(1,.tmp 21),(2,.tmp 24)]) (ns:=[1,1,1]) (zs:=ZC) (x:=(⟨x1,a8,a9⟩:Disk)) 1 [0] (FA ⟨by decide,Rep.len (α:=Tree) (j.oc T)⟩ (FA ⟨by decide,Rep.len (α:=Int) (j.oc T)⟩ (FA ⟨by decide,Ow.len _ (yW (j.st.has 24 _ Z))⟩ FN))) (((owDisk (Ow.frz (α:=Tree)) oDs)).more (owDisk.mk (x:=(⟨x1,a8,a9⟩:Disk)) (g0:=noB) (j.oc T) (j.oc T) (yW (j.st.has 24 _ Z)) (λ b h1=>(λ h2=>h1.elim))) (λ b=>(λ hb=>hb.elim (λ hb=>hb.elim) (λ hb=>⟨0,by simp,hb⟩)))) [6,70] [8,10] (@λ d1 _ _ j=>?_)
  have j:=j.gs (Gs':=[oneB none,d1,oneB none,oneB none,oneB Y,A])
  have j:=j.gs (Gs':=[oneB none,d1,oneB none,oneB none,oneB Y,A])
  exact aHe n55 (j.fzS (g:=70))
 refine ws 3 255 (λ a w=>∃ M1 Q Y,Sx (Frm.of w0) 70 M M1 [Q,oneB none,oneB none,oneB none,oneB Y,oneB none] [(6,dptr x2),(17,dt x1),(21,dt a8),(70,dfz b6)] [(8,4,dbox Y 0 xB),(24,0,dow oDs Q a9)] a w) ?_ λ n37=>?_
 ·rintro _ _ ⟨_,Q,Y,j⟩
  refine aK2 8 9 ?_ ?_
  ·refine j.bldW (ow:=(owDisk (Ow.frz (α:=Tree)) oDs)) (parts:=[(0,.tmp 17),(1,.tmp 21),(2,.tmp 24)]) (ns:=[1,1,1]) (zs:=ZC) (x:=(⟨x1,a8,a9⟩:Disk)) 1 [0] (FA ⟨by decide,Rep.len (α:=Tree) (j.oc T)⟩ (FA ⟨by decide,Rep.len (α:=Int) (j.oc T)⟩ (FA ⟨by decide,Ow.len _ (yW (j.st.has 24 _ Z))⟩ FN))) (((owDisk (Ow.frz (α:=Tree)) oDs)).more (owDisk.mk (x:=(⟨x1,a8,a9⟩:Disk)) (g0:=noB) (j.oc T) (j.oc T) (yW (j.st.has 24 _ Z)) (λ b h1=>(λ h2=>h1.elim))) (λ b=>(λ hb=>hb.elim (λ hb=>hb.elim) (λ hb=>⟨0,by simp,hb⟩)))) [6,70] [8] (@λ d2 _ _ j=>?_)
   have j:=j.gs (Gs':=[oneB none,d2,oneB none,oneB none,oneB Y,oneB none])
   have j:=j.gs (Gs':=[oneB none,d2,oneB none,oneB none,oneB Y,oneB none])
   exact aHe n45 (j.fzS (g:=70))
  ·refine j.alcW (ow:=(owDisk (Ow.frz (α:=Tree)) oDs)) 5 (owDisk.z xI Ow.row_z) [6,17,21,70] [8,24] λ j3 _ _ _ j=>?_
   have j:=j.unm (s:=10) 5 [8,24]
   exact aHe n49 (j.fzS (g:=70))
 refine ws 3 639 (λ a w=>∃ M1 Y A,Sx (Frm.of w0) 70 M M1 [oneB none,oneB none,oneB none,oneB none,oneB Y,A] [(6,dptr x2),(17,dt x1),(21,dt a8),(23,dt x0.dirs),(70,dfz b6)] [(8,4,dbox Y 0 xB),(10,5,dow (Ow.box (owDisk (Ow.frz (α:=Tree)) oDs)) A ⟨xB⟩)] a w) ?_ λ n41=>?_
 ·rintro _ _ ⟨_,Y,A,j⟩
  refine aK1 7 ?_
  refine j.cN (l:=[.tmp 23]) 0 (.cons T .nil) (FnN.thin thin_row (Xd e3)) [6,17,21,70] [8,10] λ j=>?_
  exact aHe n49 (j.fzS (g:=70))
 refine aK2 7 9 ?_ ?_
 ·refine j.cN (l:=[.tmp 23]) 0 (.cons T .nil) (FnN.thin thin_row (Xd e3)) [6,17,21,70] [8] λ j=>?_
  exact aHe n37 (j.fzS (g:=70))
 ·refine j.alcW (ow:=(owDisk (Ow.frz (α:=Tree)) oDs)) 5 (owDisk.z xI Ow.row_z) [6,17,21,23,70] [8] λ j4 _ _ _ j=>?_
  have j:=j.unm (s:=10) 5 [8]
  exact aHe n41 (j.fzS (g:=70))
instance:Ct4 prog 168 dt dt dt dt (λ r=>dtup [dt r.1,dt r.2]) ZP:=⟨λ h=>zfp h⟩
def YY(x0:Disk)(x1:File)(x2:Int):Option (Disk×Bool):=
(wl x0).bind λ v5=>
if((!v5)||cmpI .lss x2 0)=true then(some ((⟨je,0,[]⟩:Disk),false))
else((YX x0.tree x1).bind λ a8=>
if(!a8.2)=true then(some ((⟨je,0,[]⟩:Disk),false))
else((ZP x0 a8.1 x1 x2).bind λ a9=>
some (a9.1,a9.2)))
theorem zfq{x0 x1 r}(h:YY x0 x1 x2=some r):Fn prog 126 [dt x0,dt x1,dt x2] (dtup [dt r.1,dt r.2]):=by
 refine fq1 2 func126 λ M _ _ j=>?_
 refine QY<|j.zg 2 λ j=>?_
 refine j.alA 0 Zh [2,3,4] [] λ b3 j=>?_
 refine j.zh 1 [(6,0)] (λ j=>Wz ?_)
 have⟨v5,p5,h⟩:=bs h
 refine j.zd [(6,0)] h (λ j h=>?_) λ j h=>?_
 ·refine QY<|j.zh 1 [(6,0)] (λ j=>?_) (hs:=sc Z (yf (parts:=[]) (ns:=[1,1,1]) (zs:=ZC) Z Z (λ w a hl=>by simp) (λ w a hl=>Disk.parts (x:=(⟨je,0,[]⟩:Disk)) (xI _ _) ⟨Z,trivial⟩ yA))<|.nil)
  refine j.stA 6 0 FldS.id (tp Z) [] [] λ j=>?_
  refine j.zh 1 [(6,0)] (λ j=>Wz ?_)
  cases h
  exact j.y2
 have⟨a8,a9,h⟩:=bs h
 refine QY<|j.zh 7 [(6,0)] λ j=>?_
 refine j.alA 1 xI [2,3,4,23,24] [6] λ b5 j=>?_
 refine j.stA 8 1 FldS.id (tp Z) [2,3,4,24] [6] λ j=>?_
 refine j.zh 1 [(6,0),(8,1)] (λ j=>Wz ?_)
 refine j.zd [(6,0),(8,1)] h (λ j h=>?_) λ j h=>?_
 ·refine QY<|j.zh 1 [(6,0)] (λ j=>?_) (hs:=sc Z (yf (parts:=[]) (ns:=[1,1,1]) (zs:=ZC) Z Z (λ w a hl=>by simp) (λ w a hl=>Disk.parts (x:=(⟨je,0,[]⟩:Disk)) (xI _ _) ⟨Z,trivial⟩ yA))<|.nil)
  refine j.stA 6 0 FldS.id (tp Z) [] [] λ j=>?_
  refine j.zh 1 [(6,0)] (λ j=>Wz ?_)
  cases h
  exact j.y2
 have⟨b6,b7,h⟩:=bs h
 refine QY<|j.zh 7 [(6,0)] λ j=>?_
 refine j.stA 6 0 FldS.id (tp Z) [34] [] λ j=>?_
 refine j.zh 1 [(6,0)] (λ j=>Wz ?_)
 cases h
 exact j.y2
instance:Ct3 prog 126 dt dt dt (λ r=>dtup [dt r.1,dt r.2]) YY:=⟨λ h=>zfq h⟩
def qW(x0:Tree)(x1:Int):Option (Tree×Bool):=
(xj x0).bind λ v6=>
(gO ((!v6) == false) (i64 ((x0.files.length:Int) - (1:Int)))).bind λ v7=>
(gO ((!v6) == false) (yg x1 (0:Int) v7)).bind λ v8=>
if((!v6)||(!v8))=true then(some ((⟨[]⟩:Tree),false))
else((qa x0).bind λ a8=>
(i64 (x1+(1:Int))).bind λ a9=>
(ZK a8.files x1 a9).bind λ b3=>
(appO 80 [] b3).bind λ b5=>
some ((⟨b5⟩:Tree),true))
theorem zdx{x0 r}(h:qW x0 x1=some r):Fn prog 169 [dt x0,dt x1] (dtup [dt r.1,dt r.2]):=by
 refine fq1 5 func169 λ M _ _ j=>?_
 refine QY<|j.zg 1 λ j=>?_
 refine j.alA 3 xI [1,2] [] λ b3 j=>?_
 refine j.zh 1 [(4,3)] (λ j=>Wz ?_)
 have⟨v6,p6,v7,p7,h⟩:=Ke h
 have⟨v8,p8,h⟩:=bs h
 refine j.zd [(4,3)] h (λ j h=>?_) (λ j h=>?_) (hs:=sZ 1 (r:=by exact sc Z (oK (wX p6))<|sZ 6 (r:=by exact sg Z Z (λ hg=>xAr Z V cI (gh hg p7))<|sg Z Z (λ hg=>oK (yQ (gh hg p8)))<|segZ)))
 ·refine QY<|j.zh 1 [(4,3)] (λ j=>?_) (hs:=sc Z (yf (parts:=[]) (ns:=[1]) (zs:=J6) Z Z (λ w a hl=>by simp) (λ w a hl=>Tree.parts (x:=(⟨[]⟩:Tree)) yA))<|.nil)
  refine j.stA 4 3 FldS.id (tp Z) [] [] λ j=>?_
  refine j.zh 1 [(4,3)] (λ j=>Wz ?_)
  cases h
  exact j.y2
 refine QY<|j.zh 1 [(4,3)] λ j=>?_
 have⟨b8,a8,h⟩:=bs h
 refine j.cN (l:=[.tmp 20]) 0 (.cons T .nil) (WQ a8) [1] [4] λ j=>?_
 refine j.alcW (ow:=(owTree (Ow.row 45 (Ow.frz (α:=File))))) 4 (owTree.z Ow.row_z) [1] [4,21] λ b9 _ _ _ j=>?_
 refine j.stO (sb:=6) (tv:=21) 4 0 Pb (zt Z) [1] [4] λ j=>?_
 have⟨c8,d1,h⟩:=bs h
 refine Wz<|QY<|j.hdA 6 4 (Pb.fld owTree.f0) [4] λ d2 d3 _ a9 j=>?_
 refine j.zh 6 [(4,3),(6,4),(22,2)] (λ j=>?_) (hs:=sc Z (xt (α:=File) (e:=45) Z)<|sc Z (xFa Z qr U)<|sc Z (xLc (sb:=6) (.head _) Z Z Z T Z)<|segZ)
 refine j.mvG (s:=24) (sb:=6) 4 1 (Pb.fld owTree.f0) (.head _) (zT Z Z) [25,27] [4,22] @λ b5 H33 j=>?_
 have j:=j.gs (Gs':=[oneB none,H33,oneB none,oneB (some b3),b5])
 have⟨d4,b6,h⟩:=bs h
 refine j.cT (sb:=24) (l:=[.tmp 25,.tmp 27]) 1 (.cons T (.cons T .nil)) (zef b6) [] [4,6,22] λ j=>?_
 have j:=j.frzW (s:=28) 1 Z [] Z [4,6,22] Z Z
 have⟨d5,b7,h⟩:=bs h
 refine j.apA 2 yI b7 [] [4,6] λ d6 j=>?_
 refine j.zh 1 [(4,3),(6,4),(29,2)] (λ j=>?_) (hs:=sc Z (xFa Z qr (zbc Z))<|.nil)
 have j:=j.tipW (s:=29) 2 [4,6]
 refine j.shA 6 29 4 2 (tp Z) [] [4] λ j=>?_
 have j:=j.unm (s:=6) 4 [4]
 have j:=j.frzB (s:=6) 4 [] [4]
 refine Wz<|QY<|j.zh 1 [(4,3)] λ j=>?_
 refine j.stA 4 3 FldS.id (tp Z) [] [] λ j=>?_
 refine j.zh 1 [(4,3)] (λ j=>Wz ?_)
 cases h
 exact j.y2
instance:Ct2 prog 169 dt dt (λ r=>dtup [dt r.1,dt r.2]) qW:=⟨λ h=>zdx h⟩
def qX(x0:Disk)(x1:Int)(x2:Int):Option (Disk×Bool):=
(wl x0).bind λ v5=>
if((!v5)||cmpI .lss x2 0)=true then(some ((⟨je,0,[]⟩:Disk),false))
else((qW x0.tree x1).bind λ a8=>
if(!a8.2)=true then(some ((⟨je,0,[]⟩:Disk),false))
else((atI x0.tree.files x1).bind λ b3=>
(ZP x0 a8.1 b3 x2).bind λ a9=>
some (a9.1,a9.2)))
theorem zdy{x0 r}(h:qX x0 x1 x2=some r):Fn prog 127 [dt x0,dt x1,dt x2] (dtup [dt r.1,dt r.2]):=by
 refine fq1 2 func127 λ M _ _ j=>?_
 refine QY<|j.zg 1 λ j=>?_
 refine j.alA 0 Zh [1,2,3] [] λ b3 j=>?_
 refine j.zh 1 [(6,0)] (λ j=>Wz ?_)
 have⟨v5,p5,h⟩:=bs h
 refine j.zd [(6,0)] h (λ j h=>?_) λ j h=>?_
 ·refine QY<|j.zh 1 [(6,0)] (λ j=>?_) (hs:=sc Z (yf (parts:=[]) (ns:=[1,1,1]) (zs:=ZC) Z Z (λ w a hl=>by simp) (λ w a hl=>Disk.parts (x:=(⟨je,0,[]⟩:Disk)) (xI _ _) ⟨Z,trivial⟩ yA))<|.nil)
  refine j.stA 6 0 FldS.id (tp Z) [] [] λ j=>?_
  refine j.zh 1 [(6,0)] (λ j=>Wz ?_)
  cases h
  exact j.y2
 have⟨a8,a9,h⟩:=bs h
 refine QY<|j.zh 7 [(6,0)] λ j=>?_
 refine j.alA 1 xI [1,2,3,23,24] [6] λ b5 j=>?_
 refine j.stA 8 1 FldS.id (tp Z) [1,2,3,24] [6] λ j=>?_
 refine j.zh 1 [(6,0),(8,1)] (λ j=>Wz ?_)
 refine j.zd [(6,0),(8,1)] h (λ j h=>?_) λ j h=>?_
 ·refine QY<|j.zh 1 [(6,0)] (λ j=>?_) (hs:=sc Z (yf (parts:=[]) (ns:=[1,1,1]) (zs:=ZC) Z Z (λ w a hl=>by simp) (λ w a hl=>Disk.parts (x:=(⟨je,0,[]⟩:Disk)) (xI _ _) ⟨Z,trivial⟩ yA))<|.nil)
  refine j.stA 6 0 FldS.id (tp Z) [] [] λ j=>?_
  refine j.zh 1 [(6,0)] (λ j=>Wz ?_)
  cases h
  exact j.y2
 have⟨b6,b7,b8,b9,h⟩:=Ke h
 refine j.zu 12 [(6,0)] λ j=>?_
 refine j.store (sb:=6) 0 FldS.id Z Z Z kT68 Z Z (tp Z) Z [39] Z [] Z Z λ _ _ j=>?_
 refine j.zh 1 [(6,0)] (λ j=>Wz ?_)
 cases h
 exact j.y2
instance:Ct3 prog 127 dt dt dt (λ r=>dtup [dt r.1,dt r.2]) qX:=⟨λ h=>zdy h⟩
def Yg(x0:Tree)(x1:Int)(x2:Int)(x3:List Stmt):Option (Tree×Bool):=
(xj x0).bind λ v6=>
(gO ((!v6) == false) (i64 ((x0.files.length:Int) - (1:Int)))).bind λ v7=>
(gO ((!v6) == false) (yg x1 (0:Int) v7)).bind λ v8=>
if((!v6)||(!v8))=true then(some ((⟨[]⟩:Tree),false))
else((qa x0).bind λ a8=>
(atI a8.files x1).bind λ a9=>
(yK x3).bind λ b3=>
(xj (⟨(a8.files.set x1.toNat ({ a9 with stamp:=x2,body:=b3 }))⟩:Tree)).bind λ b5=>
if(!b5)=true then(some ((⟨[]⟩:Tree),false))
else(some ((⟨(a8.files.set x1.toNat ({ a9 with stamp:=x2,body:=b3 }))⟩:Tree),true)))
theorem zeX{x0 x3 r}(h:Yg x0 x1 x2 x3=some r):Fn prog 128 [dt x0,dt x1,dt x2,dt x3] (dtup [dt r.1,dt r.2]):=by
 refine fq1 6 func128 λ M _ _ j=>?_
 refine QY<|j.zg 1 λ j=>?_
 refine j.alA 4 xI [1,2,3,4] [] λ b3 j=>?_
 refine j.zh 1 [(8,4)] (λ j=>Wz ?_)
 have⟨v6,p6,v7,p7,h⟩:=Ke h
 have⟨v8,p8,h⟩:=bs h
 refine j.zd [(8,4)] h (λ j h=>?_) (λ j h=>?_) (hs:=sZ 1 (r:=by exact sc Z (oK (wX p6))<|sZ 6 (r:=by exact sg Z Z (λ hg=>xAr Z V cI (gh hg p7))<|sg Z Z (λ hg=>oK (yQ (gh hg p8)))<|segZ)))
 ·refine QY<|j.zh 1 [(8,4)] (λ j=>?_) (hs:=sc Z (yf (parts:=[]) (ns:=[1]) (zs:=J6) Z Z (λ w a hl=>by simp) (λ w a hl=>Tree.parts (x:=(⟨[]⟩:Tree)) yA))<|.nil)
  refine j.stA 8 4 FldS.id (tp Z) [] [] λ j=>?_
  refine j.zh 1 [(8,4)] (λ j=>Wz ?_)
  cases h
  exact j.y2
 refine QY<|j.zh 1 [(8,4)] λ j=>?_
 have⟨b6,b7,h⟩:=bs h
 refine j.cN (l:=[.tmp 24]) 0 (.cons T .nil) (WQ b7) [1,2,3] [8] λ j=>?_
 refine j.alcW (ow:=(owTree (Ow.row 45 (Ow.frz (α:=File))))) 5 (owTree.z Ow.row_z) [1,2,3] [8,25] λ b8 _ _ _ j=>?_
 refine j.stO (sb:=10) (tv:=25) 5 0 Pb (zt Z) [1,2,3] [8] λ j=>?_
 have⟨b9,b5,h⟩:=bs h
 refine Wz<|QY<|j.hdA 10 5 (Pb.fld owTree.f0) [8] λ c8 d5 _ a8 j=>?_
 refine j.zh 6 [(8,4),(10,5)] (λ j=>?_) (hs:=sc Z (xFa Z qr U)<|sc Z (xLc (sb:=10) (.head _) Z Z Z T Z)<|sZ 2 (r:=by exact sc Z (xIa (g:=c8) Z kS63 T T Z (λ h=>a8 h Z) b5)<|segZ))
 refine j.sfA 10 5 (((Pb.fld owTree.f0).row (.head _) Z (λ h=>a8 h Z) b5).fld File.z4) (tp Z) (tp Z) [1,3] [8] (λ j=>Wz ?_)
 refine j.hdA 10 5 (Pb.fld owTree.f0) [8] λ d6 d1 d2 a9 j=>?_
 refine j.held (λ w=>w.cell? ⟨b8,0,none⟩=some (.slice d1 ((b6.files.set x1.toNat ({ b9 with stamp:=x2 })).length) d2)) zN λ _ j=>?_
 refine j.tk (i:=0) Z Z (by decide +kernel) (by decide +kernel) (by decide +kernel) (λ _ _ _ h=>h) (j.cellS (sb:=10) (.head _)) (yFa Z qr (j.st.has 10 _ Z).1) λ _ j=>?_
 refine j.tk (i:=1) Z Z (by decide +kernel) (by decide +kernel) (by decide +kernel) (λ _ _ _ h=>h) (j.cellS (sb:=10) (.head _)) (yLd Z kT63 (j.st.has 32 _ Z) (λ _ h=>h)) λ _ j=>?_
 refine j.tM 2 1 (j.cellS (sb:=10) (.head _)) λ _ j=>?_
 refine j.tM 3 3 (j.cellS (sb:=10) (.head _)) λ _ j=>?_
 refine j.mvN (s:=33) (sb:=10) 5 2 (Pb.fld owTree.f0) (.head _) Z (zT Z Z) Z Z (by simp) (by simp) (by decide) Z (λ _ h=>h) [1,3,32,34,35] Z [8] Z Z Z Z (by decide) λ _ H39 j=>?_
 have⟨d7,d3,h⟩:=bs h
 refine aK1 4 ?_
 refine j.cN (l:=[.tmp 35]) 3 (.cons T .nil) (j0 d3).n [34] [8,10,33] λ j=>?_
 refine aHN (j.hkS (sb:=10)) ?_
 refine aK1 5 ?_
 refine j.zh 1 [(8,4),(10,5),(33,2),(36,3)] (λ j=>?_) (hs:=sc Z (xIaN Z kS63 Z T (λ h=>a9 h Z) (atI_set b5))<|.nil)
 refine aHN (j.hkS (sb:=10)) ?_
 refine aK1 6 ?_
 refine j.zh 1 [(8,4),(10,5),(33,2),(36,3)] λ j=>?_
 refine aHN (j.hkS (sb:=10)) ?_
 refine aK1 7 ?_
 have j:=j.frzW (s:=36) 3 Z [38] Z [8,10,33] Z Z
 refine j.sfA 33 2 (((PV.root.row Z (λ h=>a9 h Z) (atI_set b5)).conv (upd':=λ z=>(b6.files.set x1.toNat z)) (λ _=>by simp only[dE])).fld File.z5) (tp Z) (tp Z) [] [8,10] λ j=>?_
 refine aHN (j.hkS (sb:=10)) ?_
 refine aK0<|j.stG (s:=33) (sb:=10) 5 2 Z (by simp) (by simp) (by decide) Z Z (λ _ h=>h) (λ _ h=>h) [] Z [8] Z Z Z λ _ j=>?_
 have⟨e0,d4,h⟩:=bs h
 refine j.hdW (s:=10) 5 true (λ _=>Pb) [8] λ cs61 hS61 j=>?_
 refine j.zo [(8,4),(10,5)] (λ j=>?_) (hs:=sc Z (xLw (sb:=10) (.head _) Z (hS61 Z) Z U Z)<|sc Z (yV (l:=[.tmp 39]) j.ob.sub Z (.cons (zaL (sb:=10) j.ob 5 Pb (.head _) Z (Qc Z (hS61 Z)) T Z) .nil) (wX d4) ZA)<|segZ)
 have j:=j.ncf (s:=10) 5 [8]
 refine j.cq h (λ h=>?_) λ h=>?_
 ·refine QY<|j.zh 1 [(8,4)] (λ j=>?_) (hs:=sc Z (yf (parts:=[]) (ns:=[1]) (zs:=J6) Z Z (λ w a hl=>by simp) (λ w a hl=>Tree.parts (x:=(⟨[]⟩:Tree)) yA))<|.nil)
  refine j.stA 8 4 FldS.id (tp Z) [] [] λ j=>?_
  refine j.zh 1 [(8,4)] (λ j=>Wz ?_)
  cases h
  exact j.y2
 have j:=j.unm (s:=10) 5 [8]
 have j:=j.frzB (s:=10) 5 [41] [8]
 refine QY<|j.zh 1 [(8,4)] λ j=>?_
 refine j.stA 8 4 FldS.id (tp Z) [] [] λ j=>?_
 refine j.zh 1 [(8,4)] (λ j=>Wz ?_)
 cases h
 exact j.y2
instance:Ct4 prog 128 dt dt dt dt (λ r=>dtup [dt r.1,dt r.2]) Yg:=⟨λ h=>zeX h⟩
def Yt(x0:Disk)(x1:GAct)(x2:Int):Option (Disk×Bool):=
if cmpI .eql x1.kind 0 then((i64 (x0.clock+x2)).bind λ b7=>
(YY x0 ({ x1.file with stamp:=b7 }) x2).bind λ a9=>
some (a9.1,a9.2))
else(if cmpI .eql x1.kind 1 then((qX x0 x1.index x2).bind λ b3=>
some (b3.1,b3.2))
else((i64 (x0.clock+x2)).bind λ b8=>
(Yg x0.tree x1.index b8 x1.file.body).bind λ a8=>
(i64 (x0.clock+x2)).bind λ b5=>
(ZO x0.dirs).bind λ b6=>
(gO ((!a8.2) == false) (wl (⟨a8.1,b5,b6⟩:Disk))).bind λ b9=>
if((!a8.2)||(!b9))=true then(some ((⟨je,0,[]⟩:Disk),false))
else(some ((⟨a8.1,b5,b6⟩:Disk),true))))
theorem impl_change_w{x0 x1 r}(h:Yt x0 x1 x2=some r):Fn prog 80 [dt x0,dt x1,dt x2] (dtup [dt r.1,dt r.2]):=by
 refine fq1 4 func80 λ M w0 _ j=>?_
 refine QY<|j.zg 2 λ j=>?_
 refine j.alA 0 Zh [2,3,4] [] λ b3 j=>?_
 refine j.zh 1 [(6,0)] (λ j=>Wz ?_)
 refine j.zo [(6,0)] λ j=>?_
 refine j.zd [(6,0)] h (λ j h=>?_) λ j h=>?_
 ·refine QY<|j.zh 2 [(6,0)] λ j=>?_
  refine j.alA 1 Js [2,3,17] [6] λ d3 j=>?_
  refine j.stA 8 1 FldS.id (tp Z) [2,3] [6] (λ j=>Wz ?_)
  have⟨d4,d5,h⟩:=bs h
  refine QY<|j.zh 5 [(6,0),(8,1),(22,1)] λ j=>?_
  refine j.stA 8 1 File.set4 (tp Z) [2,3] [6] (λ j=>Wz ?_)
  have⟨d6,d7,h⟩:=bs h
  refine QY<|j.zh 6 [(6,0)] λ j=>?_
  refine j.stA 6 0 FldS.id (tp Z) [28] [] λ j=>?_
  refine j.zh 1 [(6,0)] (λ j=>Wz ?_)
  cases h
  exact j.y2
 refine j.zd [(6,0)] h (λ j h=>?_) λ j h=>?_
 ·have⟨e0,e3,h⟩:=bs h
  refine QY<|j.zh 7 [(6,0)] λ j=>?_
  refine j.stA 6 0 FldS.id (tp Z) [37] [] λ j=>?_
  refine j.zh 1 [(6,0)] (λ j=>Wz ?_)
  cases h
  exact j.y2
 have⟨e4,e5,a8,e6,h⟩:=Ke h
 refine QY<|j.zh 15 [(6,0)] λ j=>?_
 refine j.alA 2 xI [2,3,51,52] [6] λ e7 j=>?_
 refine j.stA 9 2 FldS.id (tp Z) [2,3,52] [6] λ j=>?_
 have j:=j.frzX 2 (s:=9) [2,3,52] [6]
 refine j.zh 1 [(6,0)] (λ j=>Wz ?_)
 refine j.heldF zN λ a9 _ hz49 j=>?_
 refine j.tkLp (i:=0) (j.fzS (g:=71)) hz49 (tp Z) λ j=>?_
 refine j.tkFp (i:=1) (j.fzS (g:=71)) Disk.fld1 zbj (tp Z) (next:=@λ a51 j=>?_)
 refine j.tkLp (i:=2) (j.fzS (g:=71)) hz49 (tp Z) λ j=>?_
 refine j.tM 3 2 (j.fzS (g:=71)) λ _ j=>?_
 have⟨b5,b8,h⟩:=bs h
 refine j.tkAr (op:=.add) (i:=4) (j.fzS (g:=71)) (tp Z) (tp Z) b8 (next:=@λ a55 j=>?_)
 refine j.tkFp (i:=5) (j.fzS (g:=71)) Disk.fld2 Wi (tp Z) (next:=@λ a57 j=>?_)
 refine j.tkLp (i:=6) (j.fzS (g:=71)) hz49 (tp Z) λ j=>?_
 have⟨b6,b7,h⟩:=bs h
 refine ws 1 1023 (λ a w=>∃ M1 Q R,Sx (Frm.of w0) 71 M M1 [oneB Q,oneB none,oneB none,oneB R] [(10,dt a8.2),(61,dt (⟨a8.1,b5,b6⟩:Disk)),(71,dfz a9)] [(6,0,dbox Q 0 xB),(11,3,dbox R 0 xB)] a w) ?_ λ n84=>?_
 ·rintro _ _ ⟨_,Q,R,j⟩
  refine aK1 10 ?_
  refine j.stA 11 3 FldS.id (tp Z) [10,71] [6] λ j=>?_
  refine aHN (j.fzS (g:=71)) ?_
  have⟨e8,b9,h⟩:=bs h
  refine aK0<|j.zd [(6,0),(11,3)] h (λ j h=>?_) (λ j h=>?_) (hs:=sZ 4 (r:=by exact sg Z Z (λ hg=>oK (WO (gh hg b9)))<|segZ))
  ·refine QY<|j.zh 1 [(6,0)] (λ j=>?_) (hs:=sc Z (yf (parts:=[]) (ns:=[1,1,1]) (zs:=ZC) Z Z (λ w a hl=>by simp) (λ w a hl=>Disk.parts (x:=(⟨je,0,[]⟩:Disk)) (xI _ _) ⟨Z,trivial⟩ yA))<|.nil)
   refine j.stA 6 0 FldS.id (tp Z) [] [] λ j=>?_
   refine j.zh 1 [(6,0)] (λ j=>Wz ?_)
   cases h
   exact j.y2
  refine QY<|j.zh 1 [(6,0)] λ j=>?_
  refine j.stA 6 0 FldS.id (tp Z) [] [] λ j=>?_
  refine j.zh 1 [(6,0)] (λ j=>Wz ?_)
  cases h
  exact j.y2
 refine ws 2 511 (λ a w=>∃ M1 Q,Sx (Frm.of w0) 71 M M1 [oneB Q,oneB none,oneB none,oneB none] [(10,dt a8.2),(61,dt (⟨a8.1,b5,b6⟩:Disk)),(71,dfz a9)] [(6,0,dbox Q 0 xB)] a w) ?_ λ n75=>?_
 ·rintro _ _ ⟨_,Q,j⟩
  refine aK1 9 ?_
  refine j.alA 3 Zh [10,61,71] [6] λ c8 j=>?_
  exact aHe n84 (j.fzS (g:=71))
 refine ws 2 767 (λ a w=>∃ M1 Q R,Sx (Frm.of w0) 71 M M1 [oneB Q,oneB none,oneB none,oneB R] [(10,dt a8.2),(53,dt a8.1),(57,dt b5),(60,dt b6),(71,dfz a9)] [(6,0,dbox Q 0 xB),(11,3,dbox R 0 xB)] a w) ?_ λ n79=>?_
 ·rintro _ _ ⟨_,Q,R,j⟩
  refine aK1 8 ?_
  refine j.zh 1 [(6,0),(11,3)] (λ j=>?_) (hs:=sc Z (zax Z T T T)<|.nil)
  exact aHe n84 (j.fzS (g:=71))
 refine ws 3 255 (λ a w=>∃ M1 Q,Sx (Frm.of w0) 71 M M1 [oneB Q,oneB none,oneB none,oneB none] [(10,dt a8.2),(53,dt a8.1),(57,dt b5),(60,dt b6),(71,dfz a9)] [(6,0,dbox Q 0 xB)] a w) ?_ λ n69=>?_
 ·rintro _ _ ⟨_,Q,j⟩
  refine aK2 8 9 ?_ ?_
  ·refine j.zh 1 [(6,0)] (λ j=>?_) (hs:=sc Z (zax Z T T T)<|.nil)
   exact aHe n75 (j.fzS (g:=71))
  ·refine j.alA 3 Zh [10,53,57,60,71] [6] λ d1 j=>?_
   exact aHe n79 (j.fzS (g:=71))
 refine ws 3 639 (λ a w=>∃ M1 Q R,Sx (Frm.of w0) 71 M M1 [oneB Q,oneB none,oneB none,oneB R] [(10,dt a8.2),(53,dt a8.1),(57,dt b5),(59,dt x0.dirs),(71,dfz a9)] [(6,0,dbox Q 0 xB),(11,3,dbox R 0 xB)] a w) ?_ λ n73=>?_
 ·rintro _ _ ⟨_,Q,R,j⟩
  refine aK1 7 ?_
  refine j.zh 1 [(6,0),(11,3)] (λ j=>?_) (hs:=sc Z (oK (FnN.fn<|Xd b7))<|.nil)
  exact aHe n79 (j.fzS (g:=71))
 refine aK2 7 9 ?_ ?_
 ·refine j.zh 1 [(6,0)] (λ j=>?_) (hs:=sc Z (oK (FnN.fn<|Xd b7))<|.nil)
  exact aHe n69 (j.fzS (g:=71))
 ·refine j.alA 3 Zh [10,53,57,59,71] [6] λ d2 j=>?_
  exact aHe n73 (j.fzS (g:=71))
instance:Ct3 prog 80 dt dt dt (λ r=>dtup [dt r.1,dt r.2]) Yt:=⟨λ h=>impl_change_w h⟩
theorem kI23:sliB prog 23 3 1=true:=by kernel_rfl
theorem kN69:fnB prog 69=true:=by kernel_rfl
instance iF103_2WaH:FldO prog 103 2 2:=⟨kF103_2⟩
instance iF103_3WaH:FldO prog 103 3 3:=⟨kF103_3⟩
def W5(R:Rec)(x0:Disk)(x1:Str)(x2:List Int)(x3:Bx Finder)(x4:List Compiled)(x5:Int):Option (((Bx Finder)×(List Compiled))×(List Int)):=
(YJ x0.tree x2 (120:Int)).bind λ v4=>
(R.impl_machine_load1 ({ v4 with known:=(⟨some ((⟨x0⟩:C1 Disk),x3)⟩:FKt),load:=(⟨some ((⟨x5⟩:C1 Int),x4)⟩:FLt) }) x1).bind λ a8=>
(appO 8 [a8.2.2] a8.1.out).bind λ a9=>
(a8.1.known.o).bind λ b3=>
(a8.1.load.o).bind λ b5=>
some ((b3.2,b5.2),a9)
@[reducible] def oRw(b c:Nat):Ow (RWt):=Ow.rw 69 b c oBF oLC
theorem impl_warm_1_w(hR:R.ok){x0 x1 x2 x3 r}(h:W5 R x0 x1 x2 x3 x4 x5=some r):FnD prog (oRw bk bl) (⟨x2,x3,x4,x5⟩:RWt) [dt x0,dt x1] ⟨x2,r.1.1,r.1.2,x5⟩ (.frz (dt r.2)):=by
 unfold W5 at h
 refine fnRw (fn:=f69) 1 2 7 func69 Z (oD Z) kN69 Z Z λ M G G1 _ _ _ j=>?_
 refine j.sqB (sP 1 (r:=by exact sc Z (oA Z (wu (α:=Int)))<|.nil)) [1,2,5,6] [(3,1),(4,2)] (λ j=>Ka ?_)
 refine QY<|j.segA 3 [1,5,6,13,14] [(3,1),(4,2)] λ j=>?_
 have⟨v4,p4,h⟩:=bs h
 refine j.cN (l:=[.tmp 13,.tmp 14,.const (.int .i64 120)]) 6 (.cons T (.cons T (.cons cI .nil))) (zdv (bk:=bk) (bl:=bl) p4) [1,5,6] [3,4] λ j=>?_
 refine j.nmB (s:=15) 6 [3,4] λ b7 j=>?_
 refine j.segA 1 [1,5,6] [(3,1),(4,2),(9,6)] (λ j=>Wz ?_)
 refine za<|Ka<|QY<|j.segA 1 [1,5,6] [(3,1),(4,2),(9,6),(16,6)] λ j=>?_
 refine j.mkFw (z:=.nilFunc) (so:=3) (l:=[.tmp 6]) (y:=(⟨x0⟩:C1 Disk)) 1 (.cons T .nil) [1,5] [4,9,16] λ _ j=>?_
 refine j.segB 2 (sc Z (xNcN Z Z)<|sc Z (xFa Z kF103_2 U)<|.nil) [1,3,5,19] [(4,2),(9,6),(17,1)] λ j=>?_
 refine j.stO (sb:=9) (tv:=17) 6 1 (Pb.fld owMachine.f2) (tp Z) [1,3,5] [4] λ j=>?_
 refine Wz<|za<|Ka<|QY<|j.segA 1 [1,3,5] [(4,2),(9,6),(20,6)] λ j=>?_
 refine j.mkFw (z:=(.func (.func 81) #[] #[])) (so:=4) (l:=[.tmp 5]) (y:=(⟨x5⟩:C1 Int)) 2 (.cons T .nil) [1,3] [9,20] λ _ j=>?_
 refine j.segB 2 (sc Z (xNcN Z Z)<|sc Z (xFa Z kF103_3 U)<|.nil) [1,3,4,23] [(9,6),(21,2)] λ j=>?_
 refine j.stO (sb:=9) (tv:=21) 6 2 (Pb.fld owMachine.f3) (tp Z) [1,3,4] [] λ j=>?_
 refine Wz<|za<|Ka<|QY<|j.segA 2 [3,4,26] [(9,6),(25,6)] λ j=>?_
 have⟨a8,a9,h⟩:=bs h
 refine j.cSF (l:=[.tmp 26]) 6 (j.bkN (s:=9)) Z Z kN53 ((j.st.has 25 _ Z).1.trans (j.st.has 9 _ Z).1.symm) (by simp) (.cons T .nil) (hR.impl_machine_load1 a9) [3,4] Z [] Z Z (by decide) @λ b3 _ _ _ j=>?_
 refine j.segA 5 [3,4,11] [(9,6)] (λ j=>Wz ?_)
 refine za<|Ka<|QY<|j.segA 1 [3,4,30] [(9,6)] λ j=>?_
 refine j.litW (oe:=(Ow.frz (α:=Int))) (opds:=[.tmp 30]) (xs:=[a8.2.2]) 3 [] kI23 kY23 (Jl (oe:=(Ow.frz (α:=Int))) (G1:=noB) (XV (j.st.has 30 _ Z)) (λ _ h=>h.elim)) (λ q hq=>by
 simp only[am,aS,ch] at hq
 subst hq
 exact Rep.len (XV (j.st.has 30 _ Z))) [3,4] [9] (@λ b5 _ _ _ j=>?_)
 have j:=j.gs (Gs':=[oneB none,oneB none,oneB none,b5,oneB none,oneB none,b3])
 refine j.hdR (s:=9) 6 true (λ _=>(Pb.fld owMachine.f5)) [31] λ d1 d2 _ b6 j=>?_
 refine j.segB 4 (sc Z (oM Z T)<|
  sc Z (xNcN Z Z)<|
  sc Z (xFa Z kF103_5 U)<|
  sc Z (xLc (sb:=9) (.head _) Z Z Z T Z)<|.nil) [3,4,35] [(9,6),(31,3)] (λ j=>?_)
 refine j.tipR (s:=31) 3 (by first | (simp;done) | exact oD rfl) [9] λ d3 j=>?_
 have⟨d4,b8,h⟩:=bs h
 refine j.appH 3 Z Z kE23 Z Z (j.rowH (sb:=9) (Pb.fld owMachine.f5) (.head _) Z (zT Z Z) Z Z) b8 [3,4] Z [9] Z Z λ d5 _ _ _ j=>?_
 refine j.segA 1 [3,4] [(8,3),(9,6)] (λ j=>Wz ?_)
 have j:=j.ncf (s:=9) 6 [8]
 have j:=j.tipW (s:=8) 3 [9]
 have j:=j.frzW (s:=8) 3 Z [3,4] Z [9] Z Z
 have⟨d6,b9,d7,c8,h⟩:=Ke h
 refine za<|wp_ret<|j.part2 (s:=9) (sb:=3) (sc:=4) 6 2 Z Z Z (λ hm=>machine_parts b9 c8 hm) [8] Z [] Z Z Z Z λ _ H45 j=>?_
 exact j.rsP (t:=8) (s1:=3) (s2:=4) 6 2 Z Z Z Z (λ _ h=>h) (λ _ h=>h) h
def c_run(R:Rec)(x:RWt)(d:Disk)(s:Str):Option (RWt×List Int):=(W5 R d s x.c x.a x.b x.d).bind λ r=>some (⟨x.c,r.1.1,r.1.2,x.d⟩,r.2)
theorem c_run_w(hR:R.ok){r}(h:c_run R x d s=some r):FnD prog (oRw bk bl) x [dt d,dt s] r.1 (.frz (dt r.2)):=by
 unfold c_run at h
 obtain⟨r1,h1,h2⟩:=bV.1 h
 injection h2 with h2
 subst h2
 exact impl_warm_1_w hR h1
theorem kD65_0:∀ {M:Nat->Prop} {look:Nat->Option Dt} {o:Oper} {q0:Operand} {y0:List File},o.op=.build 65 #[(0,q0)]->OpdR M look q0 (dt y0)->OpRel prog M look o (dt (⟨y0⟩:Tree)):=@λ _ _ _ q0 y0 ho h0=>yf (parts:=[(0,q0)]) (ns:=[1]) (zs:=J6) Z ho (λ w a hl=>FA ⟨(by decide:0<1),Rep.len (α:=List File) (OpdR.cells h0 hl)⟩ FN) (λ w a hl=>Tree.parts (x:=(⟨y0⟩:Tree)) (OpdR.cells h0 hl))
def qb(R:Rec)(x0:List GAct)(x1:Int)(a8:(RWt)×Disk×(List (List Int))×Int):Option (((RWt)×Disk×(List (List Int))×Int)⊕((RWt)×Disk×(List (List Int)))):=
if(cmpI .lss a8.2.2.2 (x0.length:Int))=true then(Option.bind (α:=(RWt)×Disk×(List (List Int))) ((atI x0 a8.2.2.2).bind λ a9=>
if cmpI .eql a9.kind 3 then((c_run R a8.1 a8.2.1 a9.name).bind λ b5=>
(appO 24 a8.2.2.1 ([b5.2]:List (List Int))).bind λ b7=>
some (b5.1,a8.2.1,b7))
else((Yt a8.2.1 a9 x1).bind λ b6=>
if b6.2=true then((appO 24 a8.2.2.1 ([([(1:Int)]:List Int)]:List (List Int))).bind λ b8=>
some (a8.1,b6.1,b8))
else((appO 24 a8.2.2.1 ([([(0:Int)]:List Int)]:List (List Int))).bind λ b9=>
some (a8.1,a8.2.1,b9)))) λ b3=>
(i64 (a8.2.2.2+(1:Int))).bind λ c8=>
some (.inl (b3.1,b3.2.1,b3.2.2,c8)))
else(some (.inr (a8.1,a8.2.1,a8.2.2.1)))
def W6(R:Rec)(x0:List GAct)(x1:Int)(x2:RWt):Option ((RWt)×Disk×(List (List Int))):=
Option.bind (α:=(RWt)×Disk×(List (List Int))) (zE (λ a9=>qb R x0 x1 a9) (x2,(⟨(⟨([]:List File)⟩:Tree),(0:Int),([]:List Dir)⟩:Disk),[],(0:Int))) λ a8=>
some (a8.1,a8.2.1,a8.2.2)
theorem impl_walk_w_w(hR:R.ok){x2}(h:W6 R x0 x1 x2=some r):FnM 2 prog 50 (oRw bk bl) x2 [dt x0,dt x1] r.1 (.frz (dtup [dt r.2.1,dt r.2.2])):=by
 refine fnMV (fn:=f50) 2 2 7 func50 Z Z Z (λ M G w0 u0 _ j=>wqw ?_)
 refine QY<|j.alA 3 Zh [0,1] [2] λ b2 j=>?_
 refine j.zh 1 [(2,2),(6,3)] (λ j=>?_) (hs:=sc Z (oA Z (jE (α:=List Int) (e:=23)))<|.nil)
 refine Wz<|QY<|j.zh 4 [(2,2),(6,3)] (λ j=>?_) (hs:=sc Z (xH (opds:=[]) (α:=File) Z Z Z .nil)<|sc Z (kD65_0 Z T)<|sc Z (xH (opds:=[]) (α:=Dir) Z Z Z .nil)<|sc Z (zax Z T cI T)<|.nil)
 refine j.alA 4 Zh [0,1,17] [2,6] λ b7 j=>?_
 refine j.stA 8 4 FldS.id (tp Z) [0,1] [2,6] (λ j=>Wz ?_)
 refine j.zo [(2,2),(6,3),(8,4),(9,0)] (λ j=>?_) (hs:=sc Z (xt (α:=List Int) (e:=23) Z)<|segZ)
 refine za ?_
 have⟨a9,b8,b9⟩:=bs h
 refine wqj (λ a w=>∃ M1 Q W X Y A B C,Sx (Frm.chg w0 G) 56 M M1 [oneB Q,oneB W,X,oneB Y,oneB A,oneB B,oneB C] [] [(6,3,dbox Y 0 xB),(8,4,dbox A 0 a9.2.1),(9,0,dtip Q 23 a9.2.2),(2,2,dnm (oRw bk bl) X a9.1 u0 [])] a w) ?_ ?_
 ·refine j.zo [(2,2),(6,3),(8,4),(9,0)] λ j=>?_
  refine wql b8 (λ a8 a w=>∃ M1 Q W X Y A B C,Sx (Frm.chg w0 G) 56 M M1 [oneB Q,oneB W,X,oneB Y,oneB A,oneB B,oneB C] [(1,dt x1),(19,dt x0),(20,dt (x0.length:Int)),(21,dt a8.2.2.2)] [(6,3,dbox Y 0 xB),(8,4,dbox A 0 a8.2.1),(9,0,dtip Q 23 a8.2.2.1),(2,2,dnm (oRw bk bl) X a8.1 u0 [])] a w) fx ?_
  rintro a8 c8 _ _ ⟨_,Q,W,X,Y,A,B,C,j⟩ b3 b5
  have h:qb R x0 x1 a8=some c8:=b3
  unfold qb at h
  refine j.zd [(2,2),(6,3),(8,4),(9,0)] h (λ j h=>?_) λ j h=>?_
  ·refine wqk<|za ?_
   have⟨b6,d1,d2⟩:=bs h
   refine wqj (λ a w=>∃ M1 Q W X Y A B C,Sx (Frm.chg w0 G) 56 M M1 [oneB Q,oneB W,X,oneB Y,oneB A,oneB B,oneB C] [(1,dt x1),(19,dt x0),(20,dt (x0.length:Int)),(21,dt a8.2.2.2)] [(6,3,dbox Y 0 xB),(8,4,dbox A 0 b6.2.1),(9,0,dtip Q 23 b6.2.2),(2,2,dnm (oRw bk bl) X b6.1 u0 [])] a w) ?_ ?_
   ·have⟨d7,e0,h⟩:=bs d1
    refine QY<|j.zh 2 [(2,2),(6,3),(8,4),(9,0)] λ j=>?_
    refine j.alA 5 zrGAct [1,19,20,21,24] [2,6,8,9] λ e3 j=>?_
    refine j.stA 11 5 FldS.id (tp Z) [1,19,20,21] [2,6,8,9] (λ j=>Wz ?_)
    refine j.zd [(2,2),(6,3),(8,4),(9,0),(11,5)] h (λ j h=>?_) λ j h=>?_
    ·refine QY<|j.zh 5 [(2,2),(6,3),(8,4),(9,0),(28,0)] λ j=>?_
     have⟨e4,d3,h⟩:=bs h
     refine j.cD (l:=[.tmp 30,.tmp 32]) 2 (j.bkN (s:=2)) Z Z Z ((j.st.has 29 _ Z).trans (j.st.has 2 _ Z).1.symm) (by simp) (.cons T (.cons T .nil)) (c_run_w hR d3) [1,19,20,21] Z [6,8,9,28] Z Z (by decide) λ j=>?_
     refine j.zh 1 [(2,2),(6,3),(8,4),(9,0),(28,0)] λ j=>?_
     have⟨e5,d4,h⟩:=bs h
     refine j.apA 0 yI d4 [1,19,20,21] [2,6,8] λ e6 j=>?_
     refine j.zh 1 [(2,2),(6,3),(8,4),(9,0)] (λ j=>Wz ?_)
     cases h
     exact fz
    have⟨e7,e8,h⟩:=bs h
    refine QY<|j.zh 7 [(2,2),(6,3),(8,4),(9,0)] λ j=>?_
    refine j.alA 6 Zh [1,19,20,21,41,42] [2,6,8,9] λ e9 j=>?_
    refine j.stA 12 6 FldS.id (tp Z) [1,19,20,21,42] [2,6,8,9] λ j=>?_
    refine j.zh 1 [(2,2),(6,3),(8,4),(9,0),(12,6)] (λ j=>Wz ?_)
    refine j.zd [(2,2),(6,3),(8,4),(9,0),(12,6)] h (λ j h=>?_) λ j h=>?_
    ·refine QY<|j.zh 1 [(2,2),(6,3),(8,4),(9,0)] λ j=>?_
     refine j.stA 8 4 FldS.id (tp Z) [1,19,20,21] [2,6,9] (λ j=>Wz ?_)
     refine QY<|j.zh 3 [(2,2),(6,3),(8,4),(9,0),(45,0)] (λ j=>?_) (hs:=sZ 1 (r:=by exact sc Z (xH (opds:=[.const (.int .i64 1)]) Z Z Z (.cons cI .nil))<|segZ))
     have⟨f9,d5,h⟩:=bs h
     refine j.apA 0 yI d5 [1,19,20,21] [2,6,8] λ g0 j=>?_
     refine j.zh 1 [(2,2),(6,3),(8,4),(9,0)] (λ j=>Wz ?_)
     cases h
     exact fz
    refine QY<|j.zh 3 [(2,2),(6,3),(8,4),(9,0),(49,0)] (λ j=>?_) (hs:=sZ 1 (r:=by exact sc Z (xH (opds:=[.const (.int .i64 0)]) Z Z Z (.cons cI .nil))<|segZ))
    have⟨g3,d6,h⟩:=bs h
    refine j.apA 0 yI d6 [1,19,20,21] [2,6,8] λ g4 j=>?_
    refine j.zh 1 [(2,2),(6,3),(8,4),(9,0)] (λ j=>Wz ?_)
    cases h
    exact fz
   rintro _ _ ⟨_,Q,W,X,Y,A,B,C,j⟩
   have h:=d2
   have⟨g5,g6,h⟩:=bs h
   exact j.zn [(2,2),(6,3),(8,4),(9,0)] h
  have h:=lo h b5
  cases h
  exact fz
 rintro _ _ ⟨_,Q,W,X,Y,A,B,C,j⟩
 have h:=b9
 refine QY<|j.zh 2 [(2,2),(6,3),(55,0)] λ j=>?_
 refine j.stA 6 3 FldS.id (tp Z) [] [2,55] λ j=>?_
 refine j.zh 1 [(2,2),(6,3),(7,0)] (λ j=>Wz ?_)
 have j:=j.frz 0 (s:=7) Z Z [] Z [2,6] Z
 exact j.rs2C (s:=2) 2 h
theorem kN50:fnB prog 50=true:=by kernel_rfl
theorem kT72:tyB prog 72 true 3=true:=by kernel_rfl
def zbk(R:Rec)(x0:List GAct)(x1:List Int)(x2:Int)(x3:Int):Option ((List (List Int))×Finder):=
(W6 R x0 x2 (⟨x1,(⟨(⟨[],0,0⟩:Finder)⟩:Bx Finder),([]:List Compiled),x3⟩:RWt)).bind λ a8=>
some (a8.2.2,a8.1.a.x)
theorem impl_warm_w(hR:R.ok){x1 r}(h:zbk R x0 x1 x2 x3=some r):Fn prog 38 [dt x0,dt x1,dt x2,dt x3] (dtup [dt r.1,dt r.2]):=by
 refine fq1 9 func38 λ M _ _ j=>?_
 refine QY<|j.zg 3 (λ j=>?_) (hs:=sZ 2 (r:=by exact sc Z (oA Z (wu (α:=List Int)))<|.nil))
 refine j.alA 5 zrFinder [0,2,5,7] [] λ b3 j=>?_
 refine Wz<|QY<|j.zh 1 [(9,5),(14,0)] (λ j=>?_) (hs:=sc Z (xt (α:=Dir) (e:=166) Z)<|.nil)
 have j:=j.tipW (s:=14) 0 (hG:=(λ _ h=>(by cases h))) [9]
 refine j.bldW (ow:=oFi) (parts:=[(0,.tmp 14)]) (ns:=[1,1,1]) (zs:=zpFinder) (x:=(⟨[],0,0⟩:Finder)) 1 [0] (FA ⟨by decide,Ow.len _ (yW (j.st.has 14 _ Z))⟩ FN) ((oFi).more (owFinder.mk (x:=(⟨[],0,0⟩:Finder)) (yW (j.st.has 14 _ Z)) ⟨Z,trivial⟩ ⟨Z,trivial⟩) (λ b=>(λ hb=>⟨0,by simp,hb⟩))) [0,2,5,7] [9] (@λ G6 _ _ j=>?_)
 have j:=j.gs (Gs':=[oneB none,G6,oneB none,oneB none,oneB none,oneB (some b3),oneB none,oneB none,oneB none])
 have j:=j.gs (Gs':=[oneB none,G6,oneB none,oneB none,oneB none,oneB (some b3),oneB none,oneB none,oneB none])
 refine j.boxW 2 1 [0,2,5,7] [9] λ a9 _ _ _ _ j=>?_
 refine j.alcW (zs:=[.pointer none]) (ow:=(Ow.frz (α:=Np Finder))) (d0:=(⟨none⟩:Np Finder)) 6 (λ _ _=>Z) [0,2,5,7] [9,16] λ b5 _ _ _ j=>?_
 have j:=j.unm (s:=16) 2 [9,10]
 refine j.stNB (sb:=10) (tv:=16) 6 2 Z Z Z kT123 Z Z (λ _ h=>h) (λ _ h=>h) [0,2,5,7] Z [9] Z Z Z λ _ _ j=>?_
 refine Wz<|QY<|j.zh 1 [(9,5),(10,6)] (λ j=>?_) (hs:=sc Z (xH (opds:=[]) (α:=Compiled) Z Z Z .nil)<|.nil)
 refine j.alcW (ow:=oLC) 7 zrLst [0,2,5,7,17] [9,10] λ b6 _ _ _ j=>?_
 refine j.sfA 11 7 Pb (zt Z) (tp Z) [0,2,5,7] [9,10] (λ j=>Wz ?_)
 refine QY<|j.zh 2 [(9,5),(10,6),(11,7)] λ j=>?_
 refine j.mkRw (sc:=5) (sa:=10) (sb:=11) (sd:=7) 6 7 Z Z Z Z Z Z (λ _ h=>h) (λ _ h=>h) [19,20] Z [9] Z Z Z Z Z λ _ _ j=>?_
 have⟨b7,a8,h⟩:=bs h
 refine j.cMF (l:=[.tmp 19,.tmp 20]) 2 6 (j.bkR (s:=21) Z (λ _ h=>h)) Z Z Z kN50 Z (by simp) (.cons T (.cons T .nil)) (impl_walk_w_w hR a8) [10,11] Z [9] Z Z (by decide) λ _ _ _ _ j=>?_
 refine j.zh 3 [(9,5),(21,6)] λ j=>?_
 refine j.alA 8 Zh [10,11,23,24] [9,21] λ b8 j=>?_
 refine j.stA 12 8 FldS.id (tp Z) [10,11,24] [9,21] λ j=>?_
 refine j.zh 1 [(9,5),(21,6)] (λ j=>Wz ?_)
 refine j.nmV (s:=21) 6 [9] λ u37 j=>?_
 refine j.part2 (s:=21) (sb:=10) (sc:=11) 6 7 Z Z Z (λ hm=>Ow.rw_parts hm) [13] Z [9] Z Z Z Z λ _ H38 j=>?_
 have j:=j.unm (s:=10) 6 [9,11]
 have j:=j.frzB (s:=10) 6 [13] [9,11]
 refine j.zu 5 [(9,5),(11,7)] (λ j=>?_) (hs:=sV 1 (r:=by exact sw Z (OpRel.bx (zH Z T))<|sV 2 (r:=by exact sw Z (oA Z T)<|.nil)))
 refine j.store (sb:=9) 5 FldS.id Z Z Z kT72 Z Z (tp Z) Z [8,10] Z [11] Z Z (λ _ _ j=>Wz ?_)
 cases h
 exact j.ret2tc Z kT72 Z (j.frozen (t:=8)) Z Z
def ZQ(R:Rec)(x0:List GAct)(x1:List Int)(x2:Int):Option (Int×Int):=
(W4 x0 x2).bind λ v2=>
(gO ((!v2) == false) (ZL x1)).bind λ v3=>
if((!v2)||(!v3))=true then(some ((-1:Int),(-1:Int)))
else((zbk R x0 x1 x2 (0:Int)).bind λ a8=>
some (a8.2.fills,a8.2.hits))
theorem zfr(hR:R.ok){x1 r}(h:ZQ R x0 x1 x2=some r):Fn prog 13 [dt x0,dt x1,dt x2] (dtup [dt r.1,dt r.2]):=by
 unfold ZQ at h
 refine fnx (fn:=f13) 1 func13 Z Z λ M _ _ j=>?_
 refine j.sq1 [0,1,2] (λ j=>Ka ?_)
 have⟨v2,p2,v3,p3,h⟩:=Ke h
 refine j.sq2 (sP 2 (r:=by exact sc Z (oK (zcg p2))<|sP 3 (r:=by exact sg Z Z (λ hg=>oK (Q7 (gh hg p3)))<|segC))) [0,1,2,18] λ j=>?_
 refine j.cs h (λ _ h=>?_) λ _ h=>?_
 ·refine j.sq1 [6,7] (λ j=>wp_ret (zZ ?_))
  cases h
  exact j.ret2 (j.frozen (t:=6)) (j.frozen (t:=7)) ⟨Z,Z⟩
 refine aC<|za<|Ka<|QY ?_
 obtain⟨a8,a9,h⟩:=bsW h (impl_warm_w hR)
 refine j.segA 7 [24,25] [] λ j=>?_
 refine j.alA 0 zrFinder [24,25] [] λ b3 j=>?_
 refine j.segA 1 [25] [(9,0)] λ j=>?_
 refine j.stA 9 0 FldS.id (tp Z) [] [] (λ j=>Wz ?_)
 refine za<|Ka<|j.drA (D:=[_,_,_,_,_,_]) zN [[(9,nS)],[(26,0)],[(9,nS)],[(28,2)],[(27,1)],[(29,3)]] [6,7] [] (λ j=>za ?_)
 refine wp_ret ?_
 cases h
 exact j.ret2 (j.frozen (t:=6)) (j.frozen (t:=7)) ⟨Z,Z⟩
