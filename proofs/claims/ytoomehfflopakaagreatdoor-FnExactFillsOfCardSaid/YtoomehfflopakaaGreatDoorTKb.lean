import Derived.Test.YtoomehfflopakaaGreatDoorTK
namespace Go.Proofs.YtoomehfflopakaaGreatDoor
open Go.RowKit Tryz
attribute [local irreducible] OpRel OpdR
set_option maxRecDepth 10000
set_option maxHeartbeats 1600000
variable{r:Bool}{x1 x3:Int}{bw:Nat}{R:Rec}{x0:Runner}{x2:Stmt}{x4:Warmth}
theorem kF119_1:fldB prog 119 1 1=true:=by kernel_rfl
theorem kF119_6:fldB prog 119 6 6=true:=by kernel_rfl
theorem kF119_5:fldB prog 119 5 5=true:=by kernel_rfl
theorem kN64:fnB prog 64=true:=by kernel_rfl
theorem kN107:fnB prog 107=true:=by kernel_rfl
theorem kF119_4:fldB prog 119 4 4=true:=by kernel_rfl
theorem kN104:fnB prog 104=true:=by kernel_rfl
theorem kI117:sliB prog 117 142 6=true:=by kernel_rfl
theorem kY117:zlB prog 117=true:=by kernel_rfl
instance iF119_1WbE:FldO prog 119 1 1:=⟨kF119_1⟩
instance iF119_2WbE:FldO prog 119 2 2:=⟨Wo⟩
instance iF119_4WbE:FldO prog 119 4 4:=⟨kF119_4⟩
instance iF119_5WbE:FldO prog 119 5 5:=⟨kF119_5⟩
instance iF119_6WbE:FldO prog 119 6 6:=⟨kF119_6⟩
instance iF142_0WbE:FldO prog 142 0 0:=⟨zbO⟩
instance iF142_1WbE:FldO prog 142 1 1:=⟨kF142_1⟩
instance iF142_3WbE:FldO prog 142 3 3:=⟨kF142_3⟩
instance iF142_4WbE:FldO prog 142 4 4:=⟨kF142_4⟩
instance iF142_5WbE:FldO prog 142 5 5:=⟨JK⟩
instance iF188_1WbE:FldO prog 188 1 1:=⟨zdu⟩
def Zm(x0:Runner)(x1:Str):Option (Runner×Spec):=
(xV x1).bind λ v3=>
if(decide (v3=(⟨[]⟩:Str)))=true then((Yl x0 x0.path (⟨[]⟩:Str) x1).bind λ a9=>
some (a9.1,a9.2))
else((wz x0 v3).bind λ a8=>
(gO (cmpI .lss a8.2 0 == false) (atI a8.1.mods a8.2)).bind λ b5=>
if(cmpI .lss a8.2 0||cmpI .eql b5.kind 1)=true then((W1).bind λ b6=>
some (a8.1,b6))
else((atI a8.1.mods a8.2).bind λ b7=>
(Z5 x1).bind λ b8=>
(Yl a8.1 b7.roots v3 b8).bind λ b3=>
some (b3.1,b3.2)))
theorem zcl{x1 r}(h:Zm x0 x1=some r):FnS prog 104 (oRun bw) ⟨x0⟩ [dt x1] ⟨r.1⟩ (.frz (dt r.2)):=by
 unfold Zm at h
 refine fnSB (fn:=f104) 0 2 func104 Z Z (λ M G _ b0 _ j=>Ka ?_)
 refine QY<|j.alA 1 QK [1] [0] (λ b2 j=>Wz ?_)
 refine za ?_
 obtain⟨v3,p3,h⟩:=bsW h zb9
 refine j.sqA [1,5] [(0,0),(4,1)] (λ j=>Ka ?_)
 refine j.sqA [1,5,10] [(0,0),(4,1)] λ j=>?_
 refine j.cs h (λ _ h=>?_) λ _ h=>?_
 ·refine Ka<|QY<|j.segB 6 (sP 4 (r:=by exact sc Z (xLf (sb:=0) (Pb.fld owRunner.f1) Z T Z)<|segC)) [11,15,16] [(0,0),(4,1)] λ j=>?_
  have⟨d3,b6,h⟩:=bs h
  refine j.cNA 0 0 (zaR b6) [] [4] λ j=>?_
  refine j.stA 4 1 FldS.id (tp Z) [] [0] (λ j=>Wz ?_)
  refine za<|wp_ret (zZ ?_)
  exact j.xC 0 0 h
 refine aC<|za<|Ka<|QY<|j.segC 2 [1,5,18,19] [(0,0),(4,1)] λ j=>?_
 have⟨b7,b8,h⟩:=bs h
 refine j.cNA 0 0 (Z8 b8) [1,5] [4] λ j=>?_
 refine j.segA 1 [1,5,6] [(0,0),(4,1)] (λ j=>Wz ?_)
 have⟨d4,b3,h⟩:=bs h
 refine za<|Ka<|j.hdR (s:=0) 0 (cmpI .lss b7.2 (0:Int) == false) (λ hg=>(Pb.fld owRunner.f2)) [4] λ b9 d5 _ a8 j=>?_
 refine j.sqB (sc Z (oM Z T)<|
  sc Z (oCI Z T cI)<|
  sc Z (oM Z T)<|
  sg Z Z (λ hg=>oM Z U)<|
  sg Z Z (λ hg=>xNc Z V)<|
  sg Z Z (λ hg=>xFa Z Wo V)<|
  sg Z Z (λ hg=>xLc (sb:=0) (.head _) hg Z Z V Z)<|
  sg Z Z (λ hg=>oM Z T)<|
  sg Z Z (λ hg=>xIa (g:=b9) Z X3 V V Z (λ h=>a8 h hg) (gh hg b3))<|
  sg Z Z (λ hg=>xFa Z kF142_1 V)<|
  sg Z Z (λ hg=>xLf (sb:=0) (((Pb.fld owRunner.f2).row (.head _) hg (λ h=>a8 h hg) (gh hg b3)).fld owGModR.f1) Z V Z)<|
  sg Z Z (λ hg=>oCI Z V cI)<|
  sc Z (qm Z T T)<|.nil) [1,5,6,33] [(0,0),(4,1)] (λ j=>?_)
 have j:=j.ncf (s:=0) 0 [4]
 refine j.cs h (λ _ h=>?_) λ _ h=>?_
 ·refine Ka<|QY ?_
  obtain⟨d6,d7,h⟩:=bsW h zca
  refine j.segA 1 [34] [(0,0),(4,1)] λ j=>?_
  refine j.stA 4 1 FldS.id (tp Z) [] [0] (λ j=>Wz ?_)
  refine za<|wp_ret (zZ ?_)
  exact j.xC 0 0 h
 have⟨e0,b5,e3,c8,h⟩:=Ke h
 refine aC<|za<|Ka<|j.hdA 0 0 (Pb.fld owRunner.f2) [4] λ d1 e4 _ a9 j=>?_
 refine j.drnA (D:=[_,_,_,_,_,_,_,_,_,_,_,_]) zN 12 [[(0,nS)],[(0,nS)],[(36,1)],[(37,2)],[(38,3),(0,nS)],[(6,nS)],[(39,4),(40,5)],[(41,6)],[(42,7),(0,nS)],[(5,nS)],[(1,nS)],[(45,10)],[(35,0),(43,8),(44,9),(46,11)],[(4,nS),(47,12)]] [35,43,44,46] [(0,0),(4,1)] (λ _ _ j=>?_) (hs:=rc Z Z (oM Z U)<|
  rc Z Z (oM Z U)<|
  rc Z Z (xNc Z T)<|
  rc Z Z (xFa Z Wo T)<|
  rc Z Z (xLc (sb:=0) (.head _) Z Z Z T Z)<|
  rc Z Z (oM Z T)<|
  rc Z Z (xIa (g:=d1) Z X3 T T Z (λ h=>a9 h Z) b5)<|
  rc Z Z (xFa Z kF142_2 T)<|
  rc Z Z (xLf (sb:=0) (((Pb.fld owRunner.f2).row (.head _) Z (λ h=>a9 h Z) b5).fld owGModR.f2) Z T Z)<|
  rc Z Z (oM Z T)<|
  rc Z Z (oM Z T)<|
  rc Z Z (zA (l:=[.tmp 45]) Z (.cons T .nil) (zbh c8))<|.nil)
 have⟨e5,d2,h⟩:=bs h
 refine j.cNA 0 0 (zaR d2) [] [4] λ j=>?_
 refine j.stA 4 1 FldS.id (tp Z) [] [0] (λ j=>Wz ?_)
 exact za<|wp_ret<|j.xC 0 0 h
def xQ(R:Rec)(x1:Int)(x2:List Stmt)(s2:Runner×Int):Option ((Runner×Int)⊕Runner):=
if(cmpI .lss s2.2 (x2.length:Int))=true then(if cmpI .eql s2.1.left 0 then(some (.inr ({ s2.1 with fin:=(6:Int) })))
else((i64 (s2.1.left - (1:Int))).bind λ a9=>
(atI x2 s2.2).bind λ b3=>
(R.spec_runStmt ({ s2.1 with left:=a9 }) x1 b3).bind λ a8=>
if cmpI .neq a8.fin 0 then(some (.inr a8))
else((i64 (s2.2+(1:Int))).bind λ b5=>
some (.inl (a8,b5)))))
else(some (.inr s2.1))
def Qi(R:Rec)(x0:Runner)(x1:Int)(x2:List Stmt):Option Runner:=
zE (λ s2=>xQ R x1 x2 s2) (x0,(0:Int))
theorem zfw(hR:R.ok){x2 r}(h:Qi R x0 x1 x2=some r):FnS prog 105 (oRun bw) ⟨x0⟩ [dt x1,dt x2] ⟨r⟩ .gone:=by
 refine fnSB (fn:=f105) 0 1 func105 Z Z (λ M G w0 b0 _ j=>wqw ?_)
 refine j.zo [(0,0)] λ j=>?_
 refine wql h (λ s2 a w=>∃ M1 Q,Sx (Frm.chg w0 G) 41 M M1 [Q] [(1,dt x1),(2,dt x2),(6,dt s2.2)] [(0,0,dnm (oRun bw) Q ⟨s2.1⟩ (.pointer (some ⟨b0,0,none⟩)) [])] a w) fx ?_
 rintro s2 z2 _ _ ⟨_,Q,j⟩ hs2 hx2
 have h:xQ R x1 x2 s2=some z2:=hs2
 unfold xQ at h
 refine j.zd [(0,0)] h (λ j h=>?_) λ j h=>?_
 ·refine j.zd [(0,0)] h (λ j h=>?_) (λ j h=>?_) (hs:=sZ 3 (r:=by exact sc Z (xLf (sb:=0) (Pb.fld owRunner.f6) Z T Z)<|segZ))
  ·refine QY<|j.zh 3 [(0,0)] λ j=>?_
   refine j.sfA 0 0 (Pb.fld owRunner.f5) (tp Z) cI [] [] (λ j=>Wz ?_)
   have h:=lo h hx2
   exact(j.rs0 (s:=0) 0 (bx1 h)).1
  have⟨a9,b3,h⟩:=bs h
  refine QY<|j.zh 8 [(0,0)] (λ j=>?_) (hs:=sZ 4 (r:=by exact sc Z (xLf (sb:=0) (Pb.fld owRunner.f6) Z T Z)<|segZ))
  refine j.sfA 0 0 (Pb.fld owRunner.f6) (tp Z) (tp Z) [1,2,6] [] (λ j=>Wz ?_)
  have⟨b5,b6,h⟩:=bs h
  refine QY<|j.zh 6 [(0,0)] λ j=>?_
  have⟨b7,a8,h⟩:=bs h
  refine j.cNA 0 0 (FnS.any (hR.spec_runStmt a8)) [1,2,6] [] (λ j=>Wz ?_)
  refine j.zd [(0,0)] h (λ j h=>?_) (λ j h=>?_) (hs:=sZ 3 (r:=by exact sc Z (xLf (sb:=0) (Pb.fld owRunner.f5) Z T Z)<|segZ))
  ·have h:=lo h hx2
   exact(j.rs0 (s:=0) 0 (bx1 h)).1
  have⟨b8,b9,h⟩:=bs h
  exact j.zn [(0,0)] h
 have h:=lo h hx2
 exact(j.rs0 (s:=0) 0 (bx1 h)).2
def Wq(R:Rec)(x0:Runner)(x1:Int)(x2:Stmt):Option Runner:=
if cmpI .eql x2.kind 0 then((R.spec_importName x0 x2.module).bind λ v8=>
(qt x2.module (UInt8.ofNat 46)).bind λ b6=>
(atI b6 0).bind λ a8=>
if cmpI .neq v8.1.fin 0 then(some v8.1)
else((wz v8.1 a8).bind λ a9=>
if cmpI .lss a9.2 0 then(some ({ a9.1 with fin:=(1:Int) }))
else((wz a9.1 a8).bind λ b3=>
(wA b3.1 x1 a8 (⟨(1:Int),b3.2⟩:GVal)).bind λ b7=>
some b7)))
else(if cmpI .eql x2.kind 1 then((R.spec_runFrom x0 x1 x2).bind λ b8=>
some b8)
else(if cmpI .eql x2.kind 2 then((R.spec_runStar x0 x1 x2).bind λ b9=>
some b9)
else(if cmpI .eql x2.kind 3 then((wA x0 x1 x2.name (⟨(0:Int),x2.value⟩:GVal)).bind λ c8=>
some c8)
else(if cmpI .eql x2.kind 4 then((atI x0.mods x1).bind λ d1=>
(Zl d1.attrs x2.name).bind λ b5=>
if cmpI .lss b5 0 then(some ({ x0 with fin:=(3:Int) }))
else((atI x0.mods x1).bind λ d2=>
(atI d2.attrs b5).bind λ d3=>
(Wp d3.value).bind λ d4=>
(appO 8 x0.out ([d4]:List Int)).bind λ d5=>
some ({ x0 with out:=d5 })))
else(if cmpI .eql x2.kind 5 then(some ({ x0 with fin:=(4:Int) }))
else(some x0))))))
theorem zfx(hR:R.ok){r}(h:Wq R x0 x1 x2=some r):FnS prog 150 (oRun bw) ⟨x0⟩ [dt x1,dt x2] ⟨r⟩ .gone:=by
 refine fnSB (fn:=f150) 1 2 func150 Z Z (λ M G _ b0 _ j=>wqw ?_)
 refine j.zo [(0,1)] λ j=>?_
 refine j.zo [(0,1)] λ j=>?_
 refine j.zd [(0,1)] h (λ j h=>?_) λ j h=>?_
 ·refine QY<|j.zh 3 [(0,1)] λ j=>?_
  have⟨v8,p8,h⟩:=bs h
  refine j.cNA 1 0 (hR.spec_importName p8) [1,5] [] (λ j=>Wz ?_)
  have⟨e6,e7,e8,e9,h⟩:=Ke h
  refine j.zo [(0,1)] λ j=>?_
  refine j.zd [(0,1)] h (λ j h=>?_) (λ j h=>?_) (hs:=sZ 3 (r:=by exact sc Z (xLf (sb:=0) (Pb.fld owRunner.f5) Z T Z)<|segZ))
  ·exact(j.rs0 (s:=0) 1 (bx1 h)).1
  refine QY<|j.zh 2 [(0,1)] λ j=>?_
  have⟨f9,b8,h⟩:=bs h
  refine j.cNA 1 0 (Z8 b8) [1,6] [] λ j=>?_
  refine j.zh 1 [(0,1)] (λ j=>Wz ?_)
  refine j.cq h (λ h=>?_) λ h=>?_
  ·refine QY<|j.zh 3 [(0,1)] λ j=>?_
   refine j.sfA 0 1 (Pb.fld owRunner.f5) (tp Z) cI [] [] (λ j=>Wz ?_)
   exact(j.rs0 (s:=0) 1 (bx1 h)).1
  refine QY<|j.zh 5 [(0,1)] λ j=>?_
  have⟨g0,b9,h⟩:=bs h
  refine j.cNA 1 0 (Z8 b9) [33,34,35] [] λ j=>?_
  refine j.zh 1 [(0,1)] (λ j=>?_) (hs:=sc Z (X2 Z cI T)<|.nil)
  have⟨g3,c8,h⟩:=bs h
  refine j.cNA 1 0 (FnS.any (Y0 c8)) [] [] (λ j=>Wz ?_)
  exact(j.rs0 (s:=0) 1 (bx1 h)).2
 refine j.zd [(0,1)] h (λ j h=>?_) λ j h=>?_
 ·refine QY<|j.zh 3 [(0,1)] λ j=>?_
  have⟨g4,d1,h⟩:=bs h
  refine j.cNA 1 0 (FnS.any (hR.spec_runFrom d1)) [] [] (λ j=>Wz ?_)
  exact(j.rs0 (s:=0) 1 (bx1 h)).2
 refine j.zd [(0,1)] h (λ j h=>?_) λ j h=>?_
 ·refine QY<|j.zh 3 [(0,1)] λ j=>?_
  have⟨g5,d2,h⟩:=bs h
  refine j.cNA 1 0 (FnS.any (hR.spec_runStar d2)) [] [] (λ j=>Wz ?_)
  exact(j.rs0 (s:=0) 1 (bx1 h)).2
 refine j.zd [(0,1)] h (λ j h=>?_) λ j h=>?_
 ·refine QY<|j.zh 7 [(0,1)] (λ j=>?_) (hs:=sZ 6 (r:=by exact sc Z (X2 Z cI T)<|.nil))
  have⟨g6,d3,h⟩:=bs h
  refine j.cNA 1 0 (FnS.any (Y0 d3)) [] [] (λ j=>Wz ?_)
  exact(j.rs0 (s:=0) 1 (bx1 h)).2
 refine j.zd [(0,1)] h (λ j h=>?_) λ j h=>?_
 ·have⟨g7,b5,h⟩:=bs h
  have⟨g8,d4,h⟩:=bs h
  refine j.hdA 0 1 (Pb.fld owRunner.f2) [] λ d5 g9 _ a8 j=>?_
  refine j.hdA 0 1 (((Pb.fld owRunner.f2).row (.head _) Z (λ h=>a8 h Z) b5).fld owGModR.f5) [] λ h0 h3 _ d6 j=>?_
  refine j.zv [(0,1)] (λ j=>?_) (hs:=sV 5 (r:=by exact sw Z (xIa (g:=d5) Z X3 T T Z (λ h=>a8 h Z) b5)<|sV 4 (r:=by exact sw Z (yV (l:=[.tmp 72,.tmp 74]) j.ob.sub Z (.cons (zaL (sb:=0) j.ob 1 (((Pb.fld owRunner.f2).row (.tail _ (.head _)) Z (λ h=>a8 h Z) b5).fld owGModR.f5) (.head _) Z (zT Z Z) T Z) (.cons (xf j.ob.sub T) .nil)) (W7 d4) jK)<|sw Z (oA Z T)<|.nil)))
  have j:=j.ncf (s:=0) 1 []
  refine j.zd [(0,1)] h (λ j h=>?_) λ j h=>?_
  ·refine QY<|j.zh 3 [(0,1)] λ j=>?_
   refine j.sfA 0 1 (Pb.fld owRunner.f5) (tp Z) cI [] [] (λ j=>Wz ?_)
   exact(j.rs0 (s:=0) 1 (bx1 h)).1
  refine j.held (λ _=>True) zN λ _ j=>?_
  refine j.tN 0 0 trivial λ _ j=>?_
  have⟨h4,b6,h5,b7,h⟩:=Ke h
  have⟨h6,d7,h⟩:=bs h
  refine j.hdA 0 1 (Pb.fld owRunner.f4) [] λ h7 h8 _ e0 j=>?_
  refine j.hdA 0 1 (Pb.fld owRunner.f2) [] λ e3 h9 _ a9 j=>?_
  refine j.hdA 0 1 (((Pb.fld owRunner.f2).row (.head _) Z (λ h=>a9 h Z) b6).fld owGModR.f5) [] λ e4 i0 _ b3 j=>?_
  refine j.drnE (D:=[_,_,_,_,_,_,_,_,_,_,_,_,_,_,_,_,_,_,_]) 19 [0] [[(0,nS)],[(0,nS)],[(82,1)],[(83,2)],[(84,3),(0,nS)],[(0,nS)],[(86,5)],[(87,6)],[(88,7),(0,nS)],[(1,nS)],[(89,8),(90,9)],[(91,10)],[(92,11),(0,nS)],[(7,nS)],[(93,12),(94,13)],[(95,14)],[(96,15),(0,nS)],[(97,16)],[(98,17)],[(85,4),(99,18)],[(81,0)],[(101,20)],[(102,21),(100,19)]] (
   rc Z Z (oM Z U)<|
   rc Z Z (oM Z U)<|
   rc Z Z (xNc Z T)<|
   rc Z Z (xFa Z kF119_4 T)<|
   rc Z Z (xLc (sb:=0) (.tail _ (.tail _ (.head _))) Z Z Z T Z)<|
   rc Z Z (oM Z U)<|
   rc Z Z (xNc Z T)<|
   rc Z Z (xFa Z Wo T)<|
   rc Z Z (xLc (sb:=0) (.tail _ (.head _)) Z Z Z T Z)<|
   rc Z Z (oM Z T)<|
   rc Z Z (xIa (g:=e3) Z X3 T T Z (λ h=>a9 h Z) b6)<|
   rc Z Z (xFa Z JK T)<|
   rc Z Z (xLc (sb:=0) (.head _) Z Z Z T Z)<|
   rc Z Z (oM Z T)<|
   rc Z Z (xIa (g:=e4) Z zaO T T Z (λ h=>b3 h Z) b7)<|
   rc Z Z (xFa Z zdu T)<|
   rc Z Z (xLf (sb:=0) (((((Pb.fld owRunner.f2).row (.tail _ (.head _)) Z (λ h=>a9 h Z) b6).fld owGModR.f5).row (.head _) Z (λ h=>b3 h Z) b7).fld GAttr.z1) Z T Z)<|
   rc Z Z (zA (l:=[.tmp 97]) Z (.cons T .nil) (zdC d7))<|
   rc Z Z (xH (opds:=[.tmp 98]) Z Z Z (.cons T .nil))<|.nil) (by
 intro i hi x d hx
 simp only[am,aS,ch] at hi
 rcases hi with rfl
 all_goals (injection hx with hx;injection hx with h1 h2;subst h1;subst h2;rfl)) [81,85,99] [(0,1)] Z ⟨λ _ h=>h,trivial⟩ (λ j=>?_)
  refine j.mvG (s:=85) (sb:=0) 1 0 (Pb.fld owRunner.f4) (.tail _ (.tail _ (.head _))) (zT Z Z) [81,99] [] λ j=>?_
  refine j.tipR (s:=85) 0 (by first | (simp;done) | exact oD rfl) [0] λ i3 j=>?_
  have⟨i4,e5,h⟩:=bs h
  refine j.apA 0 yI e5 [81] [0] λ i5 j=>?_
  refine j.zh 2 [(0,1),(100,0)] λ j=>?_
  have j:=j.tipW (s:=100) 0 [0]
  refine j.shA 0 100 1 0 (tp Z) [] [] (λ j=>Wz ?_)
  exact(j.rs0 (s:=0) 1 (bx1 h)).2
 refine j.zd [(0,1)] h (λ j h=>?_) λ j h=>?_
 ·refine QY<|j.zh 3 [(0,1)] λ j=>?_
  refine j.sfA 0 1 (Pb.fld owRunner.f5) (tp Z) cI [] [] (λ j=>Wz ?_)
  exact(j.rs0 (s:=0) 1 (bx1 h)).2
 exact(j.rs0 (s:=0) 1 (bx1 h)).2
def wB(_R:Rec)(x1:Int)(a9:List GAttr)(a8:Runner×Int):Option ((Runner×Int)⊕Runner):=
if(cmpI .lss a8.2 (a9.length:Int))=true then(Option.bind (α:=Runner) ((atI a9 a8.2).bind λ b3=>
(atI b3.name.l 0).bind λ b5=>
if(cmpB .neq b5 (UInt8.ofNat 122))=true then((atI a9 a8.2).bind λ b6=>
(atI a9 a8.2).bind λ b7=>
(wA a8.1 x1 b6.name b7.value).bind λ b8=>
some b8)
else(some a8.1)) λ b9=>
(i64 (a8.2+(1:Int))).bind λ c8=>
some (.inl (b9,c8)))
else(some (.inr a8.1))
def Y2(R:Rec)(x0:Runner)(x1:Int)(x2:Stmt):Option Runner:=
(R.spec_importName x0 x2.module).bind λ v4=>
if cmpI .neq v4.1.fin 0 then(some v4.1)
else((atI v4.1.mods v4.2).bind λ a8=>
(appO 32 [] a8.attrs).bind λ a9=>
zE (λ b3=>wB R x1 a9 b3) (v4.1,(0:Int)))
theorem zfy(hR:R.ok){r}(h:Y2 R x0 x1 x2=some r):FnS prog 186 (oRun bw) ⟨x0⟩ [dt x1,dt x2] ⟨r⟩ .gone:=by
 unfold Y2 at h
 refine fnSB (fn:=f186) 0 1 func186 Z Z λ M G w0 b0 _ j=>?_
 refine j.sqA [1,5] [(0,0)] (λ j=>Ka ?_)
 refine QY<|j.segC 3 [1,9,11] [(0,0)] λ j=>?_
 have⟨v4,p4,h⟩:=bs h
 refine j.cNA 0 0 (hR.spec_importName p4) [1] [] λ j=>?_
 refine j.segA 1 [1,6] [(0,0)] (λ j=>Wz ?_)
 refine za<|Ka<|j.sqB (sP 3 (r:=by exact sc Z (xLf (sb:=0) (Pb.fld owRunner.f5) Z T Z)<|segC)) [1,6,17] [(0,0)] λ j=>?_
 refine j.cs h (λ _ h=>?_) λ _ h=>?_
 ·refine wp_ret (zZ ?_)
  exact(j.rs0 (s:=0) 0 (bx1 h)).1
 have⟨e3,b3,b5,b8,h⟩:=Ke h
 refine aC<|za<|j.hdA 0 0 (Pb.fld owRunner.f2) [] λ b9 e4 _ a8 j=>?_
 refine j.hdA 0 0 (((Pb.fld owRunner.f2).row (.head _) Z (λ h=>a8 h Z) b3).fld owGModR.f5) [] λ e5 e6 _ c8 j=>?_
 refine j.sqB (sc Z (xt (α:=GAttr) (e:=188) Z (ht':=zaO))<|sP 5 (r:=by exact sc Z (xIa (g:=b9) Z X3 T T Z (λ h=>a8 h Z) b3)<|sP 2 (r:=by exact sc Z (op_app1 Z kE140 T (row_hd (sb:=0) (((Pb.fld owRunner.f2).row (.tail _ (.head _)) Z (λ h=>a8 h Z) b3).fld owGModR.f5) (.head _) Z (zT Z Z) Z T) b8)<|segC))) [1,7] [(0,0)] λ j=>?_
 have j:=j.ncf (s:=0) 0 []
 refine j.sqA [1,7,8] [(0,0)] (λ j=>aT ?_)
 refine zaq h (λ a9 a w=>∃ M1 Q,Sx (Frm.chg w0 G) 54 M M1 [Q] [(1,dt x1),(7,dt b5),(8,dt a9.2)] [(0,0,dnm (oRun bw) Q ⟨a9.1⟩ (.pointer (some ⟨b0,0,none⟩)) [])] a w) fx ?_
 rintro a9 d1 _ _ ⟨_,Q,j⟩ b6 b7
 have h:wB R x1 b5 a9=some d1:=b6
 unfold wB at h
 refine Ka<|j.sqA [1,7,8,31] [(0,0)] λ j=>?_
 refine j.cs h (λ _ h=>?_) λ _ h=>?_
 ·have⟨d2,d3,d4⟩:=bs h
  refine aC<|za<|XW (λ a w=>∃ M1 Q,Sx (Frm.chg w0 G) 54 M M1 [Q] [(1,dt x1),(7,dt b5),(8,dt a9.2)] [(0,0,dnm (oRun bw) Q ⟨d2⟩ (.pointer (some ⟨b0,0,none⟩)) [])] a w) ?_ ?_
  ·have⟨e7,e8,h⟩:=bs d3
   have⟨e9,d5,h⟩:=bs h
   refine aT<|j.sqB (sP 5 (r:=by exact sc Z (xByte Z T cI d5)<|sc Z (oCB Z T (QC))<|.nil)) [1,7,8,40] [(0,0)] λ j=>?_
   refine j.cs h (λ _ h=>?_) λ _ h=>?_
   ·have⟨f9,d6,h⟩:=bs h
    have⟨g0,d7,h⟩:=bs h
    refine j.drnA (D:=[_,_,_,_,_,_,_,_,_,_,_,_]) zN 12 [[(0,nS)],[(1,nS)],[(7,nS)],[(8,nS)],[(43,2),(44,3)],[(45,4)],[(46,5)],[(7,nS)],[(8,nS)],[(48,7),(49,8)],[(50,9)],[(51,10)],[(41,0),(42,1),(47,6),(52,11)]] [1,7,8,41,42,47,52] [(0,0)] (λ _ _ j=>?_) (hs:=rc Z Z (oM Z U)<|
      rc Z Z (oM Z T)<|
      rc Z Z (oM Z T)<|
      rc Z Z (oM Z T)<|
      rc Z Z (xIdx Z (ht':=zaO) T T d6)<|
      rc Z Z (zI GAttr.fld0 Z T)<|
      rc Z Z (zH Z T)<|
      rc Z Z (oM Z T)<|
      rc Z Z (oM Z T)<|
      rc Z Z (xIdx Z (ht':=zaO) T T d7)<|
      rc Z Z (zI GAttr.fld1 Z (ht:=zdu) T)<|
      rc Z Z (zH Z T)<|.nil)
    have⟨g3,e0,h⟩:=bs h
    refine j.cSF (l:=[.tmp 42,.tmp 47,.tmp 52]) 0 (j.bkN (s:=0)) Z Z kN107 (dU (j.st.has 41 _ Z) (j.st.has 0 _ Z).1.symm) (by simp) (.cons T (.cons T (.cons T .nil))) (FnS.any (Y0 e0)) [1,7,8] Z [] Z Z (by decide) (λ j=>Wz ?_)
    refine yP<|za ?_
    cases h
    exact fx
   refine aC<|yP<|za ?_
   cases h
   exact fx
  rintro _ _ ⟨_,Q,j⟩
  have h:=d4
  have⟨g4,g5,h⟩:=bs h
  refine j.rgA [1,7,8] [(0,0)] (λ j=>za ?_)
  exact fl h
 refine cj (yz (yz (wG ?_)))
 have h:=lo h b7
 exact(j.rs0 (s:=0) 0 (bx1 h)).2
def Wr(R:Rec)(x0:Runner)(x1:Int)(x2:Stmt):Option Runner:=
(atI x0.mods x1).bind λ v3=>
(ZW v3).bind λ v5=>
(Y1 v5 x2.level x2.module).bind λ v6=>
(yw v6).bind λ b3=>
if(!b3)=true then(some ({ x0 with fin:=(5:Int) }))
else((R.spec_importName x0 v6).bind λ a8=>
if cmpI .neq a8.1.fin 0 then(some a8.1)
else((R.spec_fromName a8.1 a8.2 x2.name).bind λ a9=>
if cmpI .eql a9.1.fin 0 then((wA a9.1 x1 x2.name a9.2).bind λ b5=>
some b5)
else(some a9.1)))
theorem zfz(hR:R.ok){r}(h:Wr R x0 x1 x2=some r):FnS prog 185 (oRun bw) ⟨x0⟩ [dt x1,dt x2] ⟨r⟩ .gone:=by
 refine fnSB (fn:=f185) 0 2 func185 Z Z (λ M G _ b0 _ j=>wqw ?_)
 refine j.zo [(0,0)] λ j=>?_
 have⟨v3,p3,v5,p5,h⟩:=Ke h
 have⟨v6,p6,h⟩:=bs h
 refine j.hdA 0 0 (Pb.fld owRunner.f2) [] λ g2 A2 _ hA2 j=>?_
 refine j.hdW (s:=0) 0 true (λ _=>((Pb.fld owRunner.f2).row (.head _) Z (λ h=>hA2 h Z) p3)) [] λ cs4 hS4 j=>?_
 refine j.zv [(0,0)] (λ j=>?_) (hs:=sV 5 (r:=by exact sw Z (xIa (g:=g2) Z X3 T T Z (λ h=>hA2 h Z) p3)<|sw Z (xLw (sb:=0) (.head _) Z (hS4 Z) Z T Z)<|sw Z (yV (l:=[.tmp 15]) j.ob.sub Z (.cons (zaL (sb:=0) j.ob 0 ((Pb.fld owRunner.f2).row (.tail _ (.head _)) Z (λ h=>hA2 h Z) p3) (.head _) Z (Qc Z (hS4 Z)) T Z) .nil) (zad p5) flat_str)<|sV 4 (r:=by exact sw Z (zA (l:=[.tmp 16,.tmp 18,.tmp 20]) Z (.cons T (.cons T (.cons T .nil))) (zbo p6))<|sw Z (oA Z T)<|.nil)))
 have j:=j.ncf (s:=0) 0 []
 have⟨b5,b6,h⟩:=bs h
 refine j.zd [(0,0)] h (λ j h=>?_) λ j h=>?_
 ·refine QY<|j.zh 3 [(0,0)] λ j=>?_
  refine j.sfA 0 0 (Pb.fld owRunner.f5) (tp Z) cI [] [] (λ j=>Wz ?_)
  exact(j.rs0 (s:=0) 0 (bx1 h)).1
 refine QY<|j.zh 2 [(0,0)] λ j=>?_
 have⟨b7,a8,h⟩:=bs h
 refine j.cNA 0 0 (hR.spec_importName a8) [1,5] [] λ j=>?_
 refine j.zh 1 [(0,0)] (λ j=>Wz ?_)
 refine j.zd [(0,0)] h (λ j h=>?_) (λ j h=>?_) (hs:=sZ 3 (r:=by exact sc Z (xLf (sb:=0) (Pb.fld owRunner.f5) Z T Z)<|segZ))
 ·exact(j.rs0 (s:=0) 0 (bx1 h)).1
 refine QY<|j.zh 4 [(0,0)] λ j=>?_
 have⟨b8,a9,h⟩:=bs h
 refine j.cNA 0 0 (hR.spec_fromName a9) [1,5] [] λ j=>?_
 refine j.alA 1 zat [1,5,40] [0] λ b9 j=>?_
 refine j.stA 8 1 FldS.id (tp Z) [1,5] [0] (λ j=>Wz ?_)
 refine j.zd [(0,0),(8,1)] h (λ j h=>?_) (λ j h=>?_) (hs:=sZ 3 (r:=by exact sc Z (xLf (sb:=0) (Pb.fld owRunner.f5) Z T Z)<|segZ))
 ·refine QY<|j.zh 5 [(0,0)] λ j=>?_
  have⟨c8,b3,h⟩:=bs h
  refine j.cNA 0 0 (FnS.any (Y0 b3)) [] [] (λ j=>Wz ?_)
  exact(j.rs0 (s:=0) 0 (bx1 h)).2
 exact(j.rs0 (s:=0) 0 (bx1 h)).2
def XO(R:Rec)(x0:Runner)(x1:Int)(x2:Str):Option (Runner×GVal):=
(atI x0.mods x1).bind λ v4=>
(Zl v4.attrs x2).bind λ v6=>
if cmpI .geq v6 0 then((atI x0.mods x1).bind λ b7=>
(atI b7.attrs v6).bind λ b8=>
some (x0,b8.value))
else((atI x0.mods x1).bind λ b9=>
(xZ b9.name x2).bind λ a9=>
(atI x0.mods x1).bind λ b5=>
(gO (cmpI .eql b5.kind 1 == false) (yw a9)).bind λ c8=>
if(cmpI .eql b5.kind 1||(!c8))=true then(some ({ x0 with fin:=(2:Int) },(⟨0,0⟩:GVal)))
else((wz x0 a9).bind λ a8=>
(gO (cmpI .lss a8.2 0 == true) (Zm a8.1 a9)).bind λ b3=>
if(cmpI .lss a8.2 0&&cmpI .eql b3.2.kind 0)=true then(some ({ (if(cmpI .lss a8.2 0 == true)=true then b3.1 else a8.1) with fin:=(2:Int) },(⟨0,0⟩:GVal)))
else((R.spec_importName (if(cmpI .lss a8.2 0 == true)=true then b3.1 else a8.1) a9).bind λ b6=>
some (b6.1,(⟨(1:Int),b6.2⟩:GVal)))))
theorem zeZ(hR:R.ok){x2 r}(h:XO R x0 x1 x2=some r):FnS prog 209 (oRun bw) ⟨x0⟩ [dt x1,dt x2] ⟨r.1⟩ (.frz (dt r.2)):=by
 refine fnSB (fn:=f209) 0 2 func209 Z Z (λ M G _ b0 _ j=>wqw ?_)
 refine QY<|j.alA 1 zat [1,2] [0] (λ b2 j=>Wz ?_)
 have⟨v4,p4,v6,p6,h⟩:=Ke h
 refine j.hdA 0 0 (Pb.fld owRunner.f2) [6] λ g3 A3 _ hA3 j=>?_
 refine j.hdA 0 0 (((Pb.fld owRunner.f2).row (.head _) Z (λ h=>hA3 h Z) p4).fld owGModR.f5) [6] λ g5 A5 _ hA5 j=>?_
 refine j.rgB (sZ 5 (r:=by exact sc Z (xIa (g:=g3) Z X3 T T Z (λ h=>hA3 h Z) p4)<|sZ 3 (r:=by exact sc Z (yV (l:=[.tmp 16,.tmp 17]) j.ob.sub Z (.cons (zaL (sb:=0) j.ob 0 (((Pb.fld owRunner.f2).row (.tail _ (.head _)) Z (λ h=>hA3 h Z) p4).fld owGModR.f5) (.head _) Z (zT Z Z) T Z) (.cons (xf j.ob.sub T) .nil)) (W7 p6) jK)<|segZ))) [1,2,7] [(0,0),(6,1)] λ j=>?_
 have j:=j.ncf (s:=0) 0 [6]
 refine j.rgA [1,2,7,20] [(0,0),(6,1)] λ j=>?_
 refine j.cq h (λ h=>?_) λ h=>?_
 ·have⟨e3,b6,e4,b7,h⟩:=Ke h
  refine QY<|j.hdA 0 0 (Pb.fld owRunner.f2) [6] λ c8 e5 _ a8 j=>?_
  refine j.hdA 0 0 (((Pb.fld owRunner.f2).row (.head _) Z (λ h=>a8 h Z) b6).fld owGModR.f5) [6] λ d1 e6 _ a9 j=>?_
  refine j.segB 12 (sZ 5 (r:=by exact sc Z (xIa (g:=c8) Z X3 T T Z (λ h=>a8 h Z) b6)<|sZ 3 (r:=by exact sc Z (xIa (g:=d1) Z zaO T T Z (λ h=>a9 h Z) b7)<|sZ 1 (r:=by exact sc Z (xLf (sb:=0) (((((Pb.fld owRunner.f2).row (.tail _ (.head _)) Z (λ h=>a8 h Z) b6).fld owGModR.f5).row (.head _) Z (λ h=>a9 h Z) b7).fld GAttr.z1) Z T Z)<|.nil)))) [32] [(0,0),(6,1)] λ j=>?_
  refine j.stA 6 1 FldS.id (tp Z) [] [0] (λ j=>Wz ?_)
  have j:=j.ncf (s:=0) 0 [6]
  exact j.xC 0 0 h
 have⟨e7,b8,e8,d2,h⟩:=Ke h
 refine j.hdA 0 0 (Pb.fld owRunner.f2) [6] λ d3 e9 _ b3 j=>?_
 refine j.rgB (sZ 5 (r:=by exact sc Z (xIa (g:=d3) Z X3 T T Z (λ h=>b3 h Z) b8)<|sZ 1 (r:=by exact sc Z (xLf (sb:=0) (((Pb.fld owRunner.f2).row (.head _) Z (λ h=>b3 h Z) b8).fld owGModR.f0) Z T Z)<|sZ 1 (r:=by exact sc Z (oK (Wf d2))<|segZ)))) [1,8] [(0,0),(6,1)] λ j=>?_
 have j:=j.ncf (s:=0) 0 [6]
 have⟨f9,b9,g0,d4,h⟩:=Ke h
 refine j.hdA 0 0 (Pb.fld owRunner.f2) [6] λ d5 g4 _ b5 j=>?_
 refine j.rgB (sZ 5 (r:=by exact sc Z (xIa (g:=d5) Z X3 T T Z (λ h=>b5 h Z) b9)<|sZ 1 (r:=by exact sc Z (xLf (sb:=0) (((Pb.fld owRunner.f2).row (.head _) Z (λ h=>b5 h Z) b9).fld owGModR.f1) Z T Z)<|sZ 3 (r:=by exact sg Z Z (λ hg=>oK (WN (gh hg d4)))<|segZ)))) [8,56] [(0,0),(6,1)] λ j=>?_
 have j:=j.ncf (s:=0) 0 [6]
 refine j.cq h (λ h=>?_) λ h=>?_
 ·refine QY<|j.segC 3 [59] [(0,0),(6,1)] λ j=>?_
  refine j.sfA 0 0 (Pb.fld owRunner.f5) (tp Z) cI [] [6] (λ j=>Wz ?_)
  refine QY<|j.segB 1 (sc Z (yf (parts:=[]) (ns:=[1,1]) (zs:=zpGVal) Z Z (λ w a hl=>by simp) (λ w a hl=>GVal.parts (x:=(⟨0,0⟩:GVal)) ⟨Z,trivial⟩ ⟨Z,trivial⟩))<|.nil) [60] [(0,0),(6,1)] λ j=>?_
  refine j.stA 6 1 FldS.id (tp Z) [] [0] (λ j=>Wz ?_)
  exact j.xC 0 0 h
 refine QY<|j.segC 2 [8,61,62] [(0,0),(6,1)] λ j=>?_
 have⟨g6,d6,h⟩:=bs h
 refine j.cNA 0 0 (Z8 d6) [8] [6] λ j=>?_
 refine j.segB 4 (sc Z (oCI Z T cI)<|
  sc Z (oM Z T)<|
  sg Z Z (λ hg=>oM Z U)<|
  sg Z Z (λ hg=>oM Z T)<|.nil) [8,65,66,67] [(0,0),(6,1)] (λ j=>?_)
 have⟨g7,d7,h⟩:=bs h
 refine j.cSFgB (sb:=0) (l:=[.tmp 67]) 0 Z (λ _ h=>h) Z Z Z kN104 (λ hg=>(j.st.has 66 _ Z).1 hg) (by simp) (λ hg=>(.cons V .nil)) (λ hg=>zcl (gh hg d7)) [8,65] Z [6] Z Z (by decide) λ _ _ _ _ j=>?_
 refine j.segB 3 (sg Z Z (λ hg=>op_fieldV Spec.fld0 Z Z V)<|segZ) [8,71] [(0,0),(6,1)] (λ j=>Wz ?_)
 refine j.cq h (λ h=>?_) λ h=>?_
 ·refine QY<|j.segC 3 [74] [(0,0),(6,1)] λ j=>?_
  refine j.sfA 0 0 (Pb.fld owRunner.f5) (tp Z) cI [] [6] (λ j=>Wz ?_)
  refine QY<|j.segB 1 (sc Z (yf (parts:=[]) (ns:=[1,1]) (zs:=zpGVal) Z Z (λ w a hl=>by simp) (λ w a hl=>GVal.parts (x:=(⟨0,0⟩:GVal)) ⟨Z,trivial⟩ ⟨Z,trivial⟩))<|.nil) [75] [(0,0),(6,1)] λ j=>?_
  refine j.stA 6 1 FldS.id (tp Z) [] [0] (λ j=>Wz ?_)
  exact j.xC 0 0 h
 refine QY<|j.segC 2 [76,77] [(0,0),(6,1)] λ j=>?_
 have⟨g8,e0,h⟩:=bs h
 refine j.cNA 0 0 (hR.spec_importName e0) [] [6] λ j=>?_
 refine j.segB 1 (sc Z (X2 Z cI T)<|.nil) [79] [(0,0),(6,1)] λ j=>?_
 refine j.stA 6 1 FldS.id (tp Z) [] [0] (λ j=>Wz ?_)
 exact j.xC 0 0 h
def YK(R:Rec)(x0:Runner)(x1:Str):Option (Runner×Int):=
(wz x0 x1).bind λ v4=>
if cmpI .geq v4.2 0 then((ju v4.1 (3:Int) x1).bind λ e0=>
some (e0,v4.2))
else((xV x1).bind λ b5=>
(gO (decide (b5≠(⟨[]⟩:Str)) == true) (R.spec_importName v4.1 b5)).bind λ b9=>
if(decide (b5≠(⟨[]⟩:Str))&&cmpI .lss b9.2 0)=true then(some ((if(decide (b5≠(⟨[]⟩:Str)) == true)=true then b9.1 else v4.1),(-1:Int)))
else((wz (if(decide (b5≠(⟨[]⟩:Str)) == true)=true then b9.1 else v4.1) x1).bind λ b8=>
if cmpI .geq b8.2 0 then((ju b8.1 (3:Int) x1).bind λ e3=>
some (e3,b8.2))
else((Zm b8.1 x1).bind λ a8=>
if cmpI .eql a8.2.kind 0 then(some ({ a8.1 with fin:=(1:Int) },(-1:Int)))
else(Option.bind (α:=Runner) ((appO 80 a8.1.mods [(⟨x1,a8.2.kind,a8.2.roots,true,false,[]⟩:GMod)]).bind λ e4=>
some ({ a8.1 with mods:=e4 })) λ e5=>
(ju e5 (0:Int) x1).bind λ b6=>
Option.bind (α:=Runner) (if cmpI .geq a8.2.file 0 then((Yw b6 a8.2.file).bind λ b7=>
(R.spec_runBody b7.1 (a8.1.mods.length:Int) b7.2).bind λ c8=>
some c8)
else(some b6)) λ a9=>
if cmpI .neq a9.fin 0 then((atI a9.mods (a8.1.mods.length:Int)).bind λ d1=>
(ju ({ a9 with mods:=(a9.mods.set (a8.1.mods.length:Int).toNat ({ d1 with cached:=false })) }) (2:Int) x1).bind λ d2=>
some (d2,(-1:Int)))
else((atI a9.mods (a8.1.mods.length:Int)).bind λ d3=>
(ju ({ a9 with mods:=(a9.mods.set (a8.1.mods.length:Int).toNat ({ d3 with done:=true })) }) (1:Int) x1).bind λ d4=>
Option.bind (α:=Runner) ((wz d4 b5).bind λ b3=>
if cmpI .geq b3.2 0 then((Z5 x1).bind λ d5=>
(wA b3.1 b3.2 d5 (⟨(1:Int),(a8.1.mods.length:Int)⟩:GVal)).bind λ d6=>
some d6)
else(some b3.1)) λ d7=>
some (d7,(a8.1.mods.length:Int)))))))
theorem zdD(hR:R.ok){x1 r}(h:YK R x0 x1=some r):FnS prog 64 (oRun bw) ⟨x0⟩ [dt x1] ⟨r.1⟩ (.frz (dt r.2)):=by
 refine fnSB (fn:=f64) 4 6 func64 Z Z (λ M G w0 b0 _ j=>wqw ?_)
 refine j.rgB segZ [1] [(0,4)] (λ j=>QY ?_)
 refine j.segB 2 segZ [1,11,12] [(0,4)] λ j=>?_
 have⟨v4,p4,h⟩:=bs h
 refine j.cNA 4 0 (Z8 p4) [1] [] λ j=>?_
 refine j.segB 1 segZ [1,5] [(0,4)] (λ j=>Wz ?_)
 refine j.rgB segZ [1,5,15] [(0,4)] λ j=>?_
 refine j.cq h (λ h=>?_) λ h=>?_
 ·refine QY<|j.segB 2 segZ [5,16,17] [(0,4)] λ j=>?_
  have⟨k6,h1,h⟩:=bs h
  refine j.cNA 4 0 (FnS.any (Jm h1)) [5] [] (λ j=>Wz ?_)
  refine j.rgB segZ [4] [(0,4)] λ j=>?_
  exact j.xF 0 4 h
 have⟨g7,k7,h⟩:=bs h
 refine j.rgB segZ [1,6] [(0,4)] (λ j=>QY ?_)
 refine j.segB 5 (sc Z (oM Z T)<|
  sc Z (zd1 Z T (yS))<|
  sc Z (oM Z T)<|
  sg Z Z (λ hg=>oM Z U)<|
  sg Z Z (λ hg=>oM Z T)<|.nil) [1,6,24,25,26] [(0,4)] (λ j=>?_)
 have⟨k8,h2,h⟩:=bs h
 refine j.cSFgB (sb:=0) (l:=[.tmp 26]) 4 Z (λ _ h=>h) Z Z Z kN64 (λ hg=>(j.st.has 25 _ Z).1 hg) (by simp) (λ hg=>(.cons V .nil)) (λ hg=>hR.spec_importName (gh hg h2)) [1,6,24] Z [] Z Z (by decide) λ _ _ _ _ j=>?_
 refine j.segB 2 segZ [1,6,29] [(0,4)] (λ j=>Wz ?_)
 refine j.cq h (λ h=>?_) λ h=>?_
 ·refine j.rgB segZ [4] [(0,4)] λ j=>?_
  exact j.xF 0 4 h
 refine QY<|j.segB 2 segZ [1,6,30,31] [(0,4)] λ j=>?_
 have⟨k9,h3,h⟩:=bs h
 refine j.cNA 4 0 (Z8 h3) [1,6] [] λ j=>?_
 refine j.segB 1 segZ [1,6,7] [(0,4)] (λ j=>Wz ?_)
 refine j.rgB segZ [1,6,7,34] [(0,4)] λ j=>?_
 refine j.cq h (λ h=>?_) λ h=>?_
 ·refine QY<|j.segB 2 segZ [7,35,36] [(0,4)] λ j=>?_
  have⟨l3,h4,h⟩:=bs h
  refine j.cNA 4 0 (FnS.any (Jm h4)) [7] [] (λ j=>Wz ?_)
  refine j.rgB segZ [4] [(0,4)] λ j=>?_
  exact j.xF 0 4 h
 refine QY<|j.segB 2 segZ [1,6,39,40] [(0,4)] λ j=>?_
 have⟨a8,h5,h⟩:=bs h
 refine j.cNA 4 0 (zcl h5) [1,6] [] @λ b5 _ _ _ j=>?_
 refine j.alA 5 QK [1,6,41] [0] λ l4 j=>?_
 refine j.stA 8 5 FldS.id (tp Z) [1,6] [0] λ j=>?_
 have j:=j.frzX 5 (s:=8) [1,6] [0]
 refine Wz<|j.rgB segZ [1,6,8,44] [(0,4)] λ j=>?_
 refine j.cq h (λ h=>?_) λ h=>?_
 ·refine QY<|j.segB 3 segZ [47] [(0,4)] λ j=>?_
  refine j.sfA 0 4 (Pb.fld owRunner.f5) (tp Z) cI [] [] (λ j=>Wz ?_)
  refine j.rgB segZ [4] [(0,4)] λ j=>?_
  exact j.xF 0 4 h
 refine j.hdA 0 4 (Pb.fld owRunner.f2) [] λ l5 l6 _ h6 j=>?_
 refine j.rgB (sZ 4 (r:=by exact sc Z (xLe Z T)<|segZ)) [1,6,8,9] [(0,4)] (λ j=>za ?_)
 have j:=j.ncf (s:=0) 4 []
 have⟨h7,h8,h9⟩:=bs h
 refine wqj (λ a w=>∃ M1 Q W X Y A B,Sx (Frm.chg w0 G) 119 M M1 [Q,W,X,Y,A,oneB B] [(1,dt x1),(6,dt g7),(8,dptr a8.2),(9,dt (a8.1.mods.length:Int))] [(0,4,dnm (oRun bw) A ⟨h7⟩ (.pointer (some ⟨b0,0,none⟩)) [])] a w) ?_ ?_
 ·refine j.opn (s:=8) λ i0 i3 i4 j=>?_
  refine j.held (λ w=>CellsAt w i0 i3 i4) zN λ _ j=>?_
  refine j.tN 0 0 (j.pkZ 8) λ _ j=>?_
  refine j.tN 1 0 (j.pkZ 8) λ _ j=>?_
  refine j.tk (i:=2) Z Z (by decide +kernel) (by decide +kernel) (by decide +kernel) (λ _ _ _ h=>h) (j.pkS (s:=8)) (yNc Z (j.st.has 54 _ Z)) λ _ j=>?_
  refine j.tk (i:=3) Z Z (by decide +kernel) (by decide +kernel) (by decide +kernel) (λ _ _ _ h=>h) (j.pkS (s:=8)) (yFa Z Wo (j.st.has 55 _ Z)) λ _ j=>?_
  refine j.tM 5 1 (j.pkZ 8) λ _ j=>?_
  refine j.tA 6 8 (λ _ j=>?_) (ht:=kF137_0)
  refine j.tF 7 8 59 Spec.fld0 λ _ j=>?_
  refine j.tA 8 8 (λ _ j=>?_) (ht:=kF137_2)
  refine j.tF 9 8 61 Spec.fld2 λ _ j=>?_
  have⟨l7,d2,h⟩:=bs h8
  refine aK2 4 10 ?_ ?_
  ·refine j.hdA 0 4 (Pb.fld owRunner.f2) [] λ l8 l9 _ i5 j=>?_
   refine j.segB 1 segZ [1,6,8,9,53,57,58,60,62] [(0,4)] λ j=>?_
   refine aHN (j.pkZ 8) ?_
   refine aK1 10 ?_
   refine j.bldW (ow:=(owGModR oAtt)) (parts:=[(0,.tmp 58),(1,.tmp 60),(2,.tmp 62),(3,.const (.bool true))]) (ns:=[1,1,1,1,1,1]) (zs:=zpGMod) (x:=(⟨x1,a8.2.kind,a8.2.roots,true,false,[]⟩:GMod)) 1 [] (FA ⟨by decide,Rep.len (α:=Str) (j.oc T)⟩ (FA ⟨by decide,Rep.len (α:=Int) (j.oc T)⟩ (FA ⟨by decide,Rep.len (α:=List Int) (j.oc T)⟩ (FA ⟨by decide,Z⟩ FN)))) (((owGModR oAtt)).more (owGModR.mk (x:=(⟨x1,a8.2.kind,a8.2.roots,true,false,[]⟩:GMod)) (j.oc T) (j.oc T) (j.oc T) (OpdR.cells cB (λ s y hs=>j.st.has s y hs)) ⟨Z,trivial⟩ (Ow.row_z _ _)) (λ b=>(λ hb=>hb.elim))) [1,6,8,9,53,57] [0] (@λ g8 _ _ j=>?_)
   have j:=j.gs (Gs':=[oneB none,g8,oneB none,oneB none,b5,oneB none])
   have j:=j.gs (Gs':=[oneB none,g8,oneB none,oneB none,b5,oneB none])
   refine aHN (j.pkZ 8) ?_
   refine aK1 11 ?_
   refine j.litW (oe:=(owGModR oAtt)) (opds:=[.tmp 63]) (xs:=[(⟨x1,a8.2.kind,a8.2.roots,true,false,[]⟩:GMod)]) 2 [1] kI117 kY117 (Jl (yW (j.st.has 63 _ Z)) (λ b hb=>⟨1,by simp,hb⟩)) (λ q hq=>by
 simp only[am,aS,ch] at hq
 subst hq
 exact Ow.len _ (yW (j.st.has 63 _ Z))) [1,6,8,9,53,57] [0] (@λ b6 _ _ _ j=>?_)
   have j:=j.gs (Gs':=[oneB none,oneB none,b6,oneB none,b5,oneB none])
   refine aHN (j.pkS (s:=8)) ?_
   refine aK1 12 ?_
   refine j.mvG (s:=57) (sb:=0) 4 3 (Pb.fld owRunner.f2) (.head _) (zT Z Z) [1,6,8,9,53] [64] @λ d3 H103 j=>?_
   have j:=j.gs (Gs':=[oneB none,oneB none,b6,H103,d3,oneB none])
   refine j.appW 3 2 d2 [1,6,8,9,53] [0] λ _ _ _ _ j=>?_
   refine aHN (j.pkZ 8) ?_
   refine aK1 13 ?_
   refine j.segB 1 segZ [1,6,8,9,66] [(0,4),(65,3)] λ j=>?_
   refine aHN (j.pkZ 8) ?_
   refine aK1 14 ?_
   refine j.segB 1 segZ [1,6,8,9,67] [(0,4),(65,3)] λ j=>?_
   refine aHN (j.pkZ 8) ?_
   refine aK1 15 ?_
   refine j.shA 0 65 4 3 (tp Z) [1,6,8,9] [] λ j=>?_
   refine aHN (j.pkZ 8) ?_
   refine aK0 ?_
   have j:=j.clo (s:=8)
   cases h
   exact fz
  ·refine j.bldW (ow:=(owGModR oAtt)) (parts:=[(0,.tmp 58),(1,.tmp 60),(2,.tmp 62),(3,.const (.bool true))]) (ns:=[1,1,1,1,1,1]) (zs:=zpGMod) (x:=(⟨x1,a8.2.kind,a8.2.roots,true,false,[]⟩:GMod)) 1 [] (FA ⟨by decide,Rep.len (α:=Str) (j.oc T)⟩ (FA ⟨by decide,Rep.len (α:=Int) (j.oc T)⟩ (FA ⟨by decide,Rep.len (α:=List Int) (j.oc T)⟩ (FA ⟨by decide,Z⟩ FN)))) (((owGModR oAtt)).more (owGModR.mk (x:=(⟨x1,a8.2.kind,a8.2.roots,true,false,[]⟩:GMod)) (j.oc T) (j.oc T) (j.oc T) (OpdR.cells cB (λ s y hs=>j.st.has s y hs)) ⟨Z,trivial⟩ (Ow.row_z _ _)) (λ b=>(λ hb=>hb.elim))) [1,6,8,9,53,56] [0] (@λ b7 _ _ j=>?_)
   have j:=j.gs (Gs':=[oneB none,b7,oneB none,oneB none,b5,oneB none])
   have j:=j.gs (Gs':=[oneB none,b7,oneB none,oneB none,b5,oneB none])
   refine aHN (j.pkZ 8) ?_
   refine aK2 4 11 ?_ ?_
   ·refine j.hdA 0 4 (Pb.fld owRunner.f2) [63] λ i6 i7 _ g9 j=>?_
    refine j.segB 1 segZ [1,6,8,9,53,57] [(0,4),(63,1)] λ j=>?_
    refine aHN (j.pkZ 8) ?_
    refine aK1 11 ?_
    refine j.litW (oe:=(owGModR oAtt)) (opds:=[.tmp 63]) (xs:=[(⟨x1,a8.2.kind,a8.2.roots,true,false,[]⟩:GMod)]) 2 [1] kI117 kY117 (Jl (yW (j.st.has 63 _ Z)) (λ b hb=>⟨1,by simp,hb⟩)) (λ q hq=>by
 simp only[am,aS,ch] at hq
 subst hq
 exact Ow.len _ (yW (j.st.has 63 _ Z))) [1,6,8,9,53,57] [0] (@λ b8 _ _ _ j=>?_)
    have j:=j.gs (Gs':=[oneB none,oneB none,b8,oneB none,b5,oneB none])
    refine aHN (j.pkS (s:=8)) ?_
    refine aK1 12 ?_
    refine j.mvG (s:=57) (sb:=0) 4 3 (Pb.fld owRunner.f2) (.head _) (zT Z Z) [1,6,8,9,53] [64] @λ d4 H119 j=>?_
    have j:=j.gs (Gs':=[oneB none,oneB none,b8,H119,d4,oneB none])
    refine j.appW 3 2 d2 [1,6,8,9,53] [0] λ _ _ _ _ j=>?_
    refine aHN (j.pkZ 8) ?_
    refine aK1 13 ?_
    refine j.segB 1 segZ [1,6,8,9,66] [(0,4),(65,3)] λ j=>?_
    refine aHN (j.pkZ 8) ?_
    refine aK1 14 ?_
    refine j.segB 1 segZ [1,6,8,9,67] [(0,4),(65,3)] λ j=>?_
    refine aHN (j.pkZ 8) ?_
    refine aK1 15 ?_
    refine j.shA 0 65 4 3 (tp Z) [1,6,8,9] [] λ j=>?_
    refine aHN (j.pkZ 8) ?_
    refine aK0 ?_
    have j:=j.clo (s:=8)
    cases h
    exact fz
   ·refine j.litW (oe:=(owGModR oAtt)) (opds:=[.tmp 63]) (xs:=[(⟨x1,a8.2.kind,a8.2.roots,true,false,[]⟩:GMod)]) 2 [1] kI117 kY117 (Jl (yW (j.st.has 63 _ Z)) (λ b hb=>⟨1,by simp,hb⟩)) (λ q hq=>by
 simp only[am,aS,ch] at hq
 subst hq
 exact Ow.len _ (yW (j.st.has 63 _ Z))) [1,6,8,9,53,56] [0] (@λ b9 _ _ _ j=>?_)
    have j:=j.gs (Gs':=[oneB none,oneB none,b9,oneB none,b5,oneB none])
    refine aHN (j.pkS (s:=8)) ?_
    refine aK1 4 ?_
    refine j.hdA 0 4 (Pb.fld owRunner.f2) [64] λ i8 i9 _ h0 j=>?_
    refine j.segB 1 segZ [1,6,8,9,53,57] [(0,4),(64,2)] λ j=>?_
    refine aHN (j.pkZ 8) ?_
    refine aK1 12 ?_
    refine j.mvG (s:=57) (sb:=0) 4 3 (Pb.fld owRunner.f2) (.head _) (zT Z Z) [1,6,8,9,53] [64] @λ d5 H132 j=>?_
    have j:=j.gs (Gs':=[oneB none,oneB none,b9,H132,d5,oneB none])
    refine j.appW 3 2 d2 [1,6,8,9,53] [0] λ _ _ _ _ j=>?_
    refine aHN (j.pkZ 8) ?_
    refine aK1 13 ?_
    refine j.segB 1 segZ [1,6,8,9,66] [(0,4),(65,3)] λ j=>?_
    refine aHN (j.pkZ 8) ?_
    refine aK1 14 ?_
    refine j.segB 1 segZ [1,6,8,9,67] [(0,4),(65,3)] λ j=>?_
    refine aHN (j.pkZ 8) ?_
    refine aK1 15 ?_
    refine j.shA 0 65 4 3 (tp Z) [1,6,8,9] [] λ j=>?_
    refine aHN (j.pkZ 8) ?_
    refine aK0 ?_
    have j:=j.clo (s:=8)
    cases h
    exact fz
 rintro _ _ ⟨_,Q,W,X,Y,A,B,j⟩
 have h:=h9
 refine QY<|j.segB 2 segZ [1,6,8,9,68,69] [(0,4)] λ j=>?_
 have⟨j1,d6,h⟩:=bs h
 refine j.cNA 4 0 (FnS.any (Jm d6)) [1,6,8,9] [] (λ j=>Wz ?_)
 refine za ?_
 have⟨d7,e0,e3⟩:=bs h
 refine wqj (λ a w=>∃ M1 Q W X Y A B,Sx (Frm.chg w0 G) 119 M M1 [Q,W,X,Y,A,oneB B] [(1,dt x1),(6,dt g7),(9,dt (a8.1.mods.length:Int))] [(0,4,dnm (oRun bw) A ⟨d7⟩ (.pointer (some ⟨b0,0,none⟩)) [])] a w) ?_ ?_
 ·refine j.rgB segZ [1,6,8,9,73] [(0,4)] λ j=>?_
  refine j.cq e0 (λ h=>?_) λ h=>?_
  ·refine QY<|j.segB 5 segZ [1,6,9,74,75,76,78] [(0,4)] λ j=>?_
   have⟨j2,e4,h⟩:=bs h
   refine j.cNA 4 0 (spec_bodyOf_w e4) [1,6,9,74,75] [] λ j=>?_
   have⟨j3,e5,h⟩:=bs h
   refine j.cNA 4 0 (FnS.any (hR.spec_runBody e5)) [1,6,9] [] (λ j=>Wz ?_)
   cases h
   exact fz
  cases h
  exact fz
 rintro _ _ ⟨_,Q,W,X,Y,A,B,j⟩
 have h:=e3
 refine j.rgB (sZ 3 (r:=by exact sc Z (xLf (sb:=0) (Pb.fld owRunner.f5) Z T Z)<|segZ)) [1,6,9,85] [(0,4)] λ j=>?_
 refine j.cq h (λ h=>?_) λ h=>?_
 ·have⟨j4,c8,h⟩:=bs h
  refine QY<|j.hdA 0 4 (Pb.fld owRunner.f2) [] λ e6 j5 _ a9 j=>?_
  refine j.segB 7 (sZ 5 (r:=by exact sc Z (xIa (g:=e6) Z X3 T T Z (λ h=>a9 h Z) c8)<|segZ)) [1,92] [(0,4)] λ j=>?_
  refine j.sfA 0 4 (((Pb.fld owRunner.f2).row (.head _) Z (λ h=>a9 h Z) c8).fld owGModR.f3) (tp Z) cB [1] [] (λ j=>Wz ?_)
  refine QY<|j.segB 2 segZ [93,94] [(0,4)] λ j=>?_
  have⟨j6,e7,h⟩:=bs h
  refine j.cNA 4 0 (FnS.any (Jm e7)) [] [] (λ j=>Wz ?_)
  refine j.rgB segZ [4] [(0,4)] λ j=>?_
  exact j.xF 0 4 h
 have⟨j7,d1,h⟩:=bs h
 refine QY<|j.hdA 0 4 (Pb.fld owRunner.f2) [] λ e8 k0 _ b3 j=>?_
 refine j.segB 7 (sZ 5 (r:=by exact sc Z (xIa (g:=e8) Z X3 T T Z (λ h=>b3 h Z) d1)<|segZ)) [1,6,9,102] [(0,4)] λ j=>?_
 refine j.sfA 0 4 (((Pb.fld owRunner.f2).row (.head _) Z (λ h=>b3 h Z) d1).fld owGModR.f4) (tp Z) cB [1,6,9] [] (λ j=>Wz ?_)
 refine QY<|j.segB 2 segZ [1,6,9,103,104] [(0,4)] λ j=>?_
 have⟨k1,e9,h⟩:=bs h
 refine j.cNA 4 0 (FnS.any (Jm e9)) [1,6,9] [] (λ j=>Wz ?_)
 refine za ?_
 have⟨f9,g0,g3⟩:=bs h
 refine wqj (λ a w=>∃ M1 Q W X Y A B,Sx (Frm.chg w0 G) 119 M M1 [Q,W,X,Y,A,oneB B] [(9,dt (a8.1.mods.length:Int))] [(0,4,dnm (oRun bw) A ⟨f9⟩ (.pointer (some ⟨b0,0,none⟩)) [])] a w) ?_ ?_
 ·refine QY<|j.segB 2 segZ [1,9,106,107] [(0,4)] λ j=>?_
  have⟨k3,g4,h⟩:=bs g0
  refine j.cNA 4 0 (Z8 g4) [1,9] [] λ j=>?_
  refine j.segB 1 segZ [1,9,10] [(0,4)] (λ j=>Wz ?_)
  refine j.rgB segZ [1,9,10,110] [(0,4)] λ j=>?_
  refine j.cq h (λ h=>?_) λ h=>?_
  ·have⟨k4,g5,h⟩:=bs h
   refine QY<|j.segB 6 (sZ 3 (r:=by exact sc Z (oK (zbh g5))<|sZ 1 (r:=by exact sc Z (X2 Z cI T)<|.nil))) [9,111,112,114,116] [(0,4)] λ j=>?_
   have⟨k5,g6,h⟩:=bs h
   refine j.cNA 4 0 (FnS.any (Y0 g6)) [9] [] (λ j=>Wz ?_)
   cases h
   exact fz
  cases h
  exact fz
 rintro _ _ ⟨_,Q,W,X,Y,A,B,j⟩
 have h:=g3
 refine j.rgB segZ [4] [(0,4)] λ j=>?_
 exact j.xF 0 4 h
instance iF75_1WbF:FldO prog 75 1 1:=⟨kF75_1⟩
def scc:Nat->Rec
 | 0=>Rec.no
 | n+1=>⟨YK (scc n),XO (scc n),Wr (scc n),Y2 (scc n),Wq (scc n),Qi (scc n),qV (scc n),Zx (scc n),yO (scc n)⟩
theorem QT:∀ n,(scc n).ok
 | 0=>Rec.no_ok
 | n+1=>⟨(λ h=>zdD (QT n) h),(λ h=>zeZ (QT n) h),(λ h=>zfz (QT n) h),(λ h=>zfy (QT n) h),(λ h=>zfx (QT n) h),(λ h=>zfw (QT n) h),(λ h=>zbi (QT n) h),(λ h=>zbX (QT n) h),(λ h=>zdw (QT n) h)⟩
def Ym(R:Rec)(x0:Disk)(x1:List Int)(x2:GAct)(x3:Int)(x4:Warmth):Option (Warmth×Disk×(List Int)):=
if cmpI .neq x2.kind 3 then((ji x0 x2 x3).bind λ v9=>
if(!v9.2)=true then(some (x4,x0,([(0:Int)]:List Int)))
else(some (x4,v9.1,([(1:Int)]:List Int))))
else((WT x0.tree x1 (120:Int)).bind λ a9=>
(R.spec_importName ({ a9 with warm:=(⟨{ x4 with disk:=x0 }⟩:Bx Warmth) }) x2.name).bind λ a8=>
(appO 8 ([a8.1.fin]:List Int) a8.1.out).bind λ b3=>
some (a8.1.warm.x,x0,b3))
theorem ze0(hR:R.ok){x0 x1 x2 r}(h:Ym R x0 x1 x2 x3 x4=some r):FnM 4 prog 34 (Ow.box oWa) ⟨x4⟩ [dt x0,dt x1,dt x2,dt x3] ⟨r.1⟩ (.frz (dtup [dt r.2.1,dt r.2.2])):=by
 unfold Ym at h
 refine fnMB (fn:=f34) 4 2 6 func34 Z Z Z (λ M G _ b0 _ j=>Ka ?_)
 refine QY<|j.segA 2 [1,3,5,7] [(4,2)] λ j=>?_
 refine j.alA 4 Zh [1,3,5,7] [4] λ b3 j=>?_
 refine j.segB 1 (sc Z (oA Z (jE (α:=Int) (e:=3)))<|.nil) [1,3,5,7] [(4,2),(10,4)] (λ j=>Wz ?_)
 refine za<|Ka<|j.sqA [1,3,5,7,17] [(4,2),(10,4)] λ j=>?_
 refine j.cs h (λ _ h=>?_) λ _ h=>?_
 ·refine Ka<|QY ?_
  obtain⟨v9,p9,h⟩:=bsW h zch
  refine j.segA 7 [5,23,24] [(4,2),(10,4)] λ j=>?_
  refine j.alA 5 Zh [5,23,24] [4,10] λ b7 j=>?_
  refine j.stA 12 5 FldS.id (tp Z) [5,24] [4,10] λ j=>?_
  refine j.segA 1 [5,13] [(4,2),(10,4),(12,5)] (λ j=>Wz ?_)
  refine za<|Ka<|j.sqA [5,26] [(4,2),(10,4),(12,5)] λ j=>?_
  refine j.cs h (λ _ h=>?_) λ _ h=>?_
  ·refine Ka<|QY<|j.segB 2 (sP 1 (r:=by exact sc Z (xH (opds:=[.const (.int .i64 0)]) Z Z Z (.cons cI .nil))<|.nil)) [27,28] [(4,2),(10,4)] λ j=>?_
   refine j.stA 10 4 FldS.id (tp Z) [28] [4] λ j=>?_
   refine j.segA 1 [11] [(4,2),(10,4)] (λ j=>Wz ?_)
   refine za<|wp_ret (zZ (zZ ?_))
   exact j.rs2C (s:=4) 2 (bxr h)
  refine aC<|za<|Ka<|QY<|j.segB 2 (sP 1 (r:=by exact sc Z (xH (opds:=[.const (.int .i64 1)]) Z Z Z (.cons cI .nil))<|.nil)) [29,30] [(4,2),(10,4)] λ j=>?_
  refine j.stA 10 4 FldS.id (tp Z) [30] [4] λ j=>?_
  refine j.segA 1 [11] [(4,2),(10,4)] (λ j=>Wz ?_)
  refine za<|wp_ret (zZ ?_)
  exact j.rs2C (s:=4) 2 (bxr h)
 refine aC<|za<|Ka<|QY<|j.segA 3 [5,7,32,33] [(4,2),(10,4)] λ j=>?_
 have⟨b8,a8,h⟩:=bs h
 refine j.cN (l:=[.tmp 32,.tmp 33,.const (.int .i64 120)]) 3 (.cons T (.cons T (.cons cI .nil))) (zek a8) [5,7] [4,10] λ j=>?_
 refine j.nmB (s:=34) 3 [4,10] λ b9 j=>?_
 refine j.segA 1 [5,7] [(4,2),(10,4),(14,3)] (λ j=>Wz ?_)
 refine za<|Ka<|QY<|j.segB 4 (sc Z (oM Z T)<|
  sc Z (oM Z T)<|
  sc Z (xNcN Z Z)<|
  sc Z (xFa Z JM U)<|.nil) [5,7,38] [(4,2),(10,4),(14,3),(36,2)] (λ j=>?_)
 refine j.stBA (sb:=14) (tv:=4) 3 2 Z (zt Z) Z Z kT70 (tp Z) Z Z (λ _ h=>h) (λ _ h=>h) [5,7] Z [10] Z Z Z Z λ _ _ j=>?_
 refine Wz<|za<|Ka<|QY<|j.segC 4 [4,5,7,40,42] [(10,4),(14,3)] λ j=>?_
 refine j.sfA 14 3 (((Pb.fld owRunner.f7).boxA).fld owWarmth.f1) (tp Z) (tp Z) [4,5,7] [10] (λ j=>Wz ?_)
 refine za<|Ka<|QY<|j.segA 3 [4,5,45] [(10,4),(14,3),(43,3)] λ j=>?_
 have⟨c8,a9,h⟩:=bs h
 refine j.cSF (l:=[.tmp 45]) 3 (j.bkN (s:=14)) Z Z kN64 ((j.st.has 43 _ Z).1.trans (j.st.has 14 _ Z).1.symm) (by simp) (.cons T .nil) (hR.spec_importName a9) [4,5] Z [10] Z Z (by decide) λ j=>?_
 have⟨d1,b5,h⟩:=bs h
 refine Wz<|za<|Ka<|j.hdA 14 3 (Pb.fld owRunner.f4) [10] λ d2 d3 _ b6 j=>?_
 refine j.drnA (D:=[_,_,_,_,_,_,_,_,_,_,_]) zN 11 [[(5,nS)],[(14,nS)],[(48,1)],[(49,2)],[(50,3),(14,nS)],[(51,4)],[(14,nS)],[(53,6)],[(54,7)],[(55,8),(14,nS)],[(52,5),(56,9),(14,nS)],[(10,nS),(47,0)],[(57,10)]] [4,47,57] [(10,4),(14,3)] (λ _ _ j=>?_) (hs:=rc Z Z (zH Z T)<|
  rc Z Z (oM Z T)<|
  rc Z Z (xNcN Z Z)<|
  rc Z Z (xFa Z kF119_5 U)<|
  rc Z Z (xLf (sb:=14) (Pb.fld owRunner.f5) Z T Z)<|
  rc Z Z (op_litC (opds:=[.tmp 51]) Z kS23 kY23 Z Z (.cons T .nil))<|
  rc Z Z (oM Z T)<|
  rc Z Z (xNcN Z Z)<|
  rc Z Z (xFa Z kF119_4 U)<|
  rc Z Z (xLc (sb:=14) (.head _) Z Z Z T Z)<|
  rc Z Z (op_appC Z kE23 T (row_hd (sb:=14) (Pb.fld owRunner.f4) (.head _) Z (zT Z Z) Z T) b5)<|.nil)
 refine j.store (sb:=10) 4 FldS.id Z Z Z kT68 Z Z (tp Z) Z [4,57] Z [14] Z Z λ _ _ j=>?_
 refine j.segA 1 [4,11] [(10,4),(14,3)] (λ j=>Wz ?_)
 have j:=j.ncf (s:=14) 3 [10]
 have j:=j.part1 (s:=14) (sb:=4) 3 Z (λ _ h=>h) Z (λ hm=>runner_part hm) [11] Z [10] Z Z
 exact za<|wp_ret<|j.rs2C (s:=4) 3 (bxr h)
theorem kN34:fnB prog 34=true:=by kernel_rfl
def wC(R:Rec)(x0:List GAct)(x1:List Int)(x2:Int)(a8:Disk×Warmth×Int):Option ((Disk×Warmth×Int)⊕Warmth):=
if(cmpI .lss a8.2.2 (x0.length:Int))=true then((atI x0 a8.2.2).bind λ b3=>
(Ym R a8.1 x1 b3 x2 a8.2.1).bind λ a9=>
(i64 (a8.2.2+(1:Int))).bind λ b5=>
some (.inl (a9.2.1,a9.1,b5)))
else(some (.inr a8.2.1))
def ZX(R:Rec)(x0:List GAct)(x1:List Int)(x2:Int):Option (Int×Int):=
(ZT x0).bind λ v2=>
(gO ((!v2) == false) (ZM x1)).bind λ v3=>
(gO (((!v2)||(!v3)) == false) (yt x2 (0:Int) (4:Int))).bind λ v4=>
if(((!v2)||(!v3))||(!v4))=true then(some ((-1:Int),(-1:Int)))
else((Wl).bind λ a9=>
Option.bind (α:=Warmth) (zE (λ b3=>wC R x0 x1 x2 b3) (a9,(⟨true,xB,yZ,[],(0:Int)⟩:Warmth),(0:Int))) λ a8=>
some (a8.finder.fills,a8.finder.hits))
theorem zfA(hR:R.ok){x0 x1 x2 r}(h:ZX R x0 x1 x2=some r):Fn prog 10 [dt x0,dt x1,dt x2] (dtup [dt r.1,dt r.2]):=by
 unfold ZX at h
 refine fnx (fn:=f10) 3 func10 Z Z λ M w0 _ j=>?_
 refine j.sq1 [0,1,2] (λ j=>Ka ?_)
 have⟨v2,p2,v3,p3,h⟩:=Ke h
 have⟨v4,p4,h⟩:=bs h
 refine j.sq2 (sP 1 (r:=by exact sc Z (oK (zab p2))<|sP 3 (r:=by exact sg Z Z (λ hg=>oK (Q8 (gh hg p3)))<|sP 4 (r:=by exact sg Z Z (λ hg=>oK (yM (gh hg p4)))<|segC)))) [0,1,2,23] λ j=>?_
 refine j.cs h (λ _ h=>?_) λ _ h=>?_
 ·refine j.sq1 [6,7] (λ j=>wp_ret (zZ ?_))
  cases h
  exact j.ret2 (j.frozen (t:=6)) (j.frozen (t:=7)) ⟨Z,Z⟩
 refine aC<|za<|Ka<|QY ?_
 obtain⟨d3,d4,h⟩:=bsW h zbl
 refine j.segA 1 [0,1,2,24] [] λ j=>?_
 refine j.alA 2 Zh [0,1,2,24] [] λ b5 j=>?_
 refine j.stA 8 2 FldS.id (tp Z) [0,1,2] [] (λ j=>Wz ?_)
 refine za<|Ka<|QY<|j.bldW (ow:=oWa) (parts:=[(0,.const (.bool true)),(4,.const (.int .i64 0))]) (ns:=[1,3,3,1,1]) (zs:=zpWarmth) (x:=(⟨true,xB,yZ,[],(0:Int)⟩:Warmth)) 0 [] (FA ⟨by decide,Z⟩ (FA ⟨by decide,Z⟩ FN)) ((oWa).more (owWarmth.mk (x:=(⟨true,xB,yZ,[],(0:Int)⟩:Warmth)) (OpdR.cells cB (λ s y hs=>j.st.has s y hs)) (Zh _ _) ((owFinder.z Ow.row_z) _ _) (Ow.row_z _ _) (OpdR.cells cI (λ s y hs=>j.st.has s y hs)) (λ b h1=>(λ h2=>h2.elim))) (λ b=>(λ hb=>hb.elim (λ hb=>hb.elim) (λ hb=>hb.elim)))) [0,1,2] [8] (@λ b6 _ _ j=>?_)
 have j:=j.gs (Gs':=[b6,oneB none,oneB (some b5)])
 refine j.boxW 1 0 [0,1,2] [8] λ d5 _ _ _ _ j=>?_
 refine j.segA 1 [0,1,2] [(8,2),(9,1)] (λ j=>Wz ?_)
 have⟨b7,b8,b9⟩:=bs h
 refine za<|XW (λ a w=>∃ M1 Q W X,Sx (Frm.of w0) 55 M M1 [Q,W,oneB X] [] [(9,1,dow (Ow.box oWa) W ⟨b7⟩)] a w) ?_ ?_
 ·refine j.sqA [0,1,2,10] [(8,2),(9,1)] (λ j=>aT ?_)
  have j:=j.unm (s:=9) 1 [8]
  refine zaq b8 (λ a8 a w=>∃ M1 Q W X,Sx (Frm.of w0) 55 M M1 [Q,W,oneB X] [(0,dt x0),(1,dt x1),(2,dt x2),(10,dt a8.2.2)] [(8,2,dbox X 0 a8.1),(9,1,dow (Ow.box oWa) W ⟨a8.2.1⟩)] a w) fx ?_
  rintro a8 c8 _ _ ⟨_,Q,W,X,j⟩ a9 b3
  have h:wC R x0 x1 x2 a8=some c8:=a9
  unfold wC at h
  refine Ka<|j.sqA [0,1,2,10,30] [(8,2),(9,1)] λ j=>?_
  refine j.cs h (λ _ h=>?_) λ _ h=>?_
  ·have⟨d6,d1,h⟩:=bs h
   refine aC<|za<|Ka<|aT<|j.nmB (s:=9) 1 [8] λ d7 j=>?_
   refine j.pre zN 8 13 λ _ j=>?_
   refine j.drnE (D:=[_,_,_,_,_,_,_,_]) 8 [] [[(8,nS)],[(1,nS)],[(0,nS)],[(10,nS)],[(36,2),(37,3)],[(38,4)],[(2,nS)],[(9,nS)]] (
    rc Z Z (y8 Z T)<|
     rc Z Z (oM Z T)<|
     rc Z Z (oM Z T)<|
     rc Z Z (oM Z T)<|
     rc Z Z (xIdx Z T T d1)<|
     rc Z Z (zH Z T)<|
     rc Z Z (oM Z T)<|
     rc Z Z (oM Z T)<|.nil) (λ _ h=>by cases h) [0,1,2,10,34,35,39,40] [(8,2),(9,1),(41,1)] rfl ⟨λ _ h=>h,⟨λ _ h=>h,⟨λ _ h=>h,trivial⟩⟩⟩ (λ j=>?_)
   refine pre_nil<|aK1 8 ?_
   have⟨e0,d2,h⟩:=bs h
   refine j.cMF (l:=[.tmp 34,.tmp 35,.tmp 39,.tmp 40]) 4 1 (j.bkN (s:=9)) Z Z Z kN34 ((j.st.has 41 _ Z).1.trans (j.st.has 9 _ Z).1.symm) (by simp) (.cons T (.cons T (.cons T (.cons T .nil)))) (ze0 hR d2) [0,1,2,10] Z [8] Z Z (by decide) (λ _ _ _ _ j=>aHN trivial ?_)
   refine j.tM 9 42 trivial λ _ j=>?_
   refine j.tkE (i:=10) (s2:=33) trivial λ j=>?_
   refine j.tkE (i:=11) (s2:=33) trivial (λ j=>aK1 12 ?_)
   refine j.stA 8 2 FldS.id (tp Z) [0,1,2,10] [9] (λ j=>aHN trivial ?_)
   have⟨e3,e4,h⟩:=bs h
   refine aK0<|yP<|za<|j.rgA [0,1,2,10] [(8,2),(9,1)] λ j=>?_
   have j:=j.unm (s:=9) 1 [8]
   exact za<|fl h
  refine cj (yz (yz (wG ?_)))
  refine za ?_
  have h:=lo h b3
  cases h
  exact fx
 rintro _ _ ⟨_,Q,W,X,j⟩
 have h:=b9
 refine Ka<|j.nmB (s:=9) 1 [] λ e5 j=>?_
 refine j.drA (D:=[_,_,_,_,_,_,_,_,_,_,_,_]) zN [[(9,nS)],[(45,0)],[(46,1)],[(47,2)],[(48,3),(9,nS)],[(9,nS)],[(50,5)],[(51,6)],[(52,7)],[(53,8),(9,nS)],[(49,4)],[(54,9)]] [6,7] [] (λ j=>?_) (hs:=rc Z Z (oM Z T)<|
  rc Z Z (xNcN Z Z)<|
  rc Z Z (xFa Z kF75_2 U)<|
  rc Z Z (xFa Z kF72_1 T)<|
  rc Z Z (xLf (sb:=9) ((Pb.fld owWarmth.f2).fld owFinder.f1) Z T Z)<|
  rc Z Z (oM Z T)<|
  rc Z Z (xNcN Z Z)<|
  rc Z Z (xFa Z kF75_2 U)<|
  rc Z Z (xFa Z kF72_2 T)<|
  rc Z Z (xLf (sb:=9) ((Pb.fld owWarmth.f2).fld owFinder.f2) Z T Z)<|
  rc Z Z (oA Z T)<|
  rc Z Z (oA Z T)<|.nil)
 refine za<|wp_ret ?_
 cases h
 exact j.ret2 (j.frozen (t:=6)) (j.frozen (t:=7)) ⟨Z,Z⟩
theorem kE27:elB prog 27 47 9 112=true:=by kernel_rfl
instance iF45_0WcA:FldO prog 45 0 0:=⟨kF45_0⟩
instance iF45_1WcA:FldO prog 45 1 1:=⟨kF45_1⟩
instance iF45_2WcA:FldO prog 45 2 2:=⟨kF45_2⟩
instance iF45_3WcA:FldO prog 45 3 3:=⟨kF45_3⟩
instance iF45_4WcA:FldO prog 45 4 4:=⟨kF45_4⟩
instance iF47_0WcA:FldO prog 47 0 0:=⟨kF47_0⟩
instance iF47_2WcA:FldO prog 47 2 7:=⟨kF47_2⟩
instance iF47_3WcA:FldO prog 47 3 8:=⟨kF47_3⟩
def XA(x0:Stmt)(x1:Int):Option Int:=
(i64 (x1 - (x0.module.l.length:Int))).bind λ v2=>
if cmpI .lss v2 0 then(some (-1:Int))
else((i64 (v2 - (x0.name.l.length:Int))).bind λ v9=>
if cmpI .lss v9 0 then(some (-1:Int))
else(some v9))
theorem laws_szStmt_w{x0 r}(h:XA x0 x1=some r):Fn prog 140 [dt x0,dt x1] (dt r):=by
 refine fq1 0 func140 λ M _ _ j=>?_
 refine j.z1 λ j=>?_
 have⟨v2,p2,h⟩:=bs h
 refine j.z1 λ j=>?_
 refine j.zc h (λ j h=>?_) λ j h=>?_
 ·exact j.ze h
 have⟨v9,p9,h⟩:=bs h
 refine j.z1 λ j=>?_
 refine j.zc h (λ j h=>?_) λ j h=>?_
 ·exact j.ze h
 exact j.ze h
instance:Ct2 prog 140 dt dt dt XA:=⟨λ h=>laws_szStmt_w h⟩
def Zb(x0:List Stmt)(a8:Int×Int):Option ((Int×Int)⊕(Int⊕Int)):=
if(cmpI .lss a8.2 (x0.length:Int))=true then((atI x0 a8.2).bind λ b3=>
(XA b3 a8.1).bind λ a9=>
if cmpI .lss a9 0 then(some (.inr (.inr (-1:Int))))
else((i64 (a8.2+(1:Int))).bind λ b5=>
some (.inl (a9,b5))))
else(some (.inr (.inl a8.1)))
def Y3(x0:List Stmt)(x1:Int):Option Int:=
(i64 (x1 - (x0.length:Int))).bind λ v2=>
if cmpI .lss v2 0 then(some (-1:Int))
else(Option.bind (α:=Int⊕Int) (zE (λ a8=>Zb x0 a8) (v2,(0:Int))) (Sum.elim (λ b9=>
some b9) some))
theorem zfB{x0 r}(h:Y3 x0 x1=some r):Fn prog 90 [dt x0,dt x1] (dt r):=by
 refine fq1 0 func90 λ M w0 _ j=>?_
 refine j.z1 λ j=>?_
 have⟨v2,p2,h⟩:=bs h
 refine j.z1 λ j=>?_
 refine j.zc h (λ j h=>?_) λ j h=>?_
 ·exact j.ze h
 refine wqk<|za<|j.jb [] (λ b9=>[(1,dt b9)]) h (λ o9 p9 k9=>?_) λ b9 _ _ j h=>?_
 ·refine j.z1 λ j=>?_
  refine wql p9 (λ a9 a w=>Sx (Frm.of w0) 27 M M [] [(0,dt x0),(1,dt a9.1),(5,dt a9.2)] [] a w) (j.sel0 [0,1,5]) ?_
  rintro a9 b5 _ _ j b3 a8
  have h:Zb x0 a9=some b5:=b3
  unfold Zb at h
  refine j.zc h (λ j h=>?_) λ j h=>?_
  ·have⟨b6,b7,h⟩:=bs h
   have⟨b8,c8,h⟩:=bs h
   refine j.z1 λ j=>?_
   refine j.zc h (λ j h=>?_) λ j h=>?_
   ·exact j.ze (jo (lo h a8) k9)
   have⟨d1,d2,h⟩:=bs h
   exact j.zn [] h
  have h:=lo h a8
  exact flz h
 exact j.ze h
instance:Ct2 prog 90 dt dt dt Y3:=⟨λ h=>zfB h⟩
def XB(x0:File)(x1:Int):Option Int:=
(i64 (x1 - (x0.pkg.l.length:Int))).bind λ v2=>
if cmpI .lss v2 0 then(some (-1:Int))
else((i64 (v2 - (x0.name.l.length:Int))).bind λ v9=>
if cmpI .lss v9 0 then(some (-1:Int))
else((Y3 x0.body v9).bind λ a8=>
if cmpI .lss a8 0 then(some (-1:Int))
else(some a8)))
theorem laws_szFile_w{x0 r}(h:XB x0 x1=some r):Fn prog 57 [dt x0,dt x1] (dt r):=by
 refine fq1 0 func57 λ M _ _ j=>?_
 refine j.z1 λ j=>?_
 have⟨v2,p2,h⟩:=bs h
 refine j.z1 λ j=>?_
 refine j.zc h (λ j h=>?_) λ j h=>?_
 ·exact j.ze h
 have⟨v9,p9,h⟩:=bs h
 refine j.z1 λ j=>?_
 refine j.zc h (λ j h=>?_) λ j h=>?_
 ·exact j.ze h
 have⟨a8,a9,h⟩:=bs h
 refine j.z1 λ j=>?_
 refine j.zc h (λ j h=>?_) λ j h=>?_
 ·exact j.ze h
 exact j.ze h
instance:Ct2 prog 57 dt dt dt XB:=⟨λ h=>laws_szFile_w h⟩
def Ws(x0:GAct)(x1:Int):Option Int:=
(XB x0.file x1).bind λ v2=>
if cmpI .lss v2 0 then(some (-1:Int))
else((i64 (v2 - (x0.name.l.length:Int))).bind λ v9=>
if cmpI .lss v9 0 then(some (-1:Int))
else(some v9))
theorem laws_szAct_w{x0 r}(h:Ws x0 x1=some r):Fn prog 29 [dt x0,dt x1] (dt r):=by
 refine fq1 0 func29 λ M _ _ j=>?_
 refine j.z1 λ j=>?_
 have⟨v2,p2,h⟩:=bs h
 refine j.z1 λ j=>?_
 refine j.zc h (λ j h=>?_) λ j h=>?_
 ·exact j.ze h
 have⟨v9,p9,h⟩:=bs h
 refine j.z1 λ j=>?_
 refine j.zc h (λ j h=>?_) λ j h=>?_
 ·exact j.ze h
 exact j.ze h
instance:Ct2 prog 29 dt dt dt Ws:=⟨λ h=>laws_szAct_w h⟩
def ZY(x0:List GAct)(a8:Int×Int):Option ((Int×Int)⊕(Int⊕Int)):=
if(cmpI .lss a8.2 (x0.length:Int))=true then((atI x0 a8.2).bind λ b3=>
(Ws b3 a8.1).bind λ a9=>
if cmpI .lss a9 0 then(some (.inr (.inr (-1:Int))))
else((i64 (a8.2+(1:Int))).bind λ b5=>
some (.inl (a9,b5))))
else(some (.inr (.inl a8.1)))
def XC(x0:List GAct)(x1:Int):Option Int:=
(i64 (x1 - (x0.length:Int))).bind λ v2=>
if cmpI .lss v2 0 then(some (-1:Int))
else(Option.bind (α:=Int⊕Int) (zE (λ a8=>ZY x0 a8) (v2,(0:Int))) (Sum.elim (λ b9=>
some b9) some))
theorem zcm{x0 r}(h:XC x0 x1=some r):Fn prog 9 [dt x0,dt x1] (dt r):=by
 refine fq1 0 func9 λ M w0 _ j=>?_
 refine j.z1 λ j=>?_
 have⟨v2,p2,h⟩:=bs h
 refine j.z1 λ j=>?_
 refine j.zc h (λ j h=>?_) λ j h=>?_
 ·exact j.ze h
 refine wqk<|za<|j.jb [] (λ b9=>[(1,dt b9)]) h (λ o9 p9 k9=>?_) λ b9 _ _ j h=>?_
 ·refine j.z1 λ j=>?_
  refine wql p9 (λ a9 a w=>Sx (Frm.of w0) 27 M M [] [(0,dt x0),(1,dt a9.1),(5,dt a9.2)] [] a w) (j.sel0 [0,1,5]) ?_
  rintro a9 b5 _ _ j b3 a8
  have h:ZY x0 a9=some b5:=b3
  unfold ZY at h
  refine j.zc h (λ j h=>?_) λ j h=>?_
  ·have⟨b6,b7,h⟩:=bs h
   have⟨b8,c8,h⟩:=bs h
   refine j.z1 λ j=>?_
   refine j.zc h (λ j h=>?_) λ j h=>?_
   ·exact j.ze (jo (lo h a8) k9)
   have⟨d1,d2,h⟩:=bs h
   exact j.zn [] h
  have h:=lo h a8
  exact flz h
 exact j.ze h
instance:Ct2 prog 9 dt dt dt XC:=⟨λ h=>zcm h⟩
def XD(x0:Stmt):Option Stmt:=
some ({ { { { { zStmt with kind:=x0.kind } with module:=x0.module } with level:=x0.level } with name:=x0.name } with value:=x0.value })
theorem zcn{x0 r}(h:XD x0=some r):Fn prog 153 [dt x0] (dt r):=by
 refine fq1 2 func153 λ M _ _ j=>?_
 refine QY<|j.zg 1 λ j=>?_
 refine j.alA 0 zas [1] [] (λ b3 j=>Wz ?_)
 refine QY<|j.alA 1 zas [1] [2] (λ b5 j=>Wz ?_)
 refine QY<|j.zh 3 [(2,0),(3,1),(6,1)] λ j=>?_
 refine j.stA 3 1 Stmt.set0 (tp Z) [1] [2] (λ j=>Wz ?_)
 refine QY<|j.zh 3 [(2,0),(3,1),(9,1)] λ j=>?_
 refine j.stA 3 1 Stmt.set1 (tp Z) [1] [2] (λ j=>Wz ?_)
 refine QY<|j.zh 3 [(2,0),(3,1),(12,1)] λ j=>?_
 refine j.stA 3 1 Stmt.set2 (tp Z) [1] [2] (λ j=>Wz ?_)
 refine QY<|j.zh 3 [(2,0),(3,1),(15,1)] λ j=>?_
 refine j.stA 3 1 Stmt.set3 (tp Z) [1] [2] (λ j=>Wz ?_)
 refine QY<|j.zh 3 [(2,0),(3,1),(18,1)] λ j=>?_
 refine j.stA 3 1 Stmt.set4 (tp Z) [] [2] (λ j=>Wz ?_)
 refine QY<|j.zh 1 [(2,0)] λ j=>?_
 refine j.stA 2 0 FldS.id (tp Z) [] [] (λ j=>Wz ?_)
 exact j.yB h
instance:Ct1 prog 153 dt dt XD:=⟨λ h=>zcn h⟩
def jC(x0:List Stmt)(a8:(List Stmt)×Int):Option (((List Stmt)×Int)⊕(List Stmt)):=
if(cmpI .lss a8.2 (x0.length:Int))=true then((atI x0 a8.2).bind λ a9=>
(XD a9).bind λ b3=>
(atI a8.1 a8.2).bind λ _b7=>
(setO a8.1 a8.2 b3).bind λ b5=>
(i64 (a8.2+(1:Int))).bind λ b6=>
some (.inl (b5,b6)))
else(some (.inr a8.1))
def Wt(x0:List Stmt):Option (List Stmt):=
(zaK 5 56 (x0.length:Int) zStmt).bind λ v5=>
Option.bind (α:=(List Stmt)) (zE (λ a8=>jC x0 a8) (v5,(0:Int))) λ o8=>
some o8
theorem zfC{x0 r}(h:Wt x0=some r):FnOwn prog 109 [dt x0] 109 r:=by
 refine fqO 1 func109 λ M w0 _ j=>?_
 refine j.z1 (λ j=>?_) (hs:=sc Z (oA Z (jE (α:=Stmt) (e:=109)))<|.nil)
 refine QY<|j.zg 2 λ j=>?_
 have⟨v5,p5,h⟩:=bs h
 refine j.make 0 Z Z kE43 kZ109 zas Z (gl Z) p5 [0] Z [] Z Z λ g4 _ _ _ j=>?_
 refine j.zh 1 [(3,0)] (λ j=>Wz ?_)
 refine za<|j.jmq 1 [] (λ _=>[]) (λ o8 q=>[(3,0,dtip (q 0) 109 o8)]) h (λ o8 p8=>?_) λ o8 q8 _ _ _ j h=>?_
 ·refine j.zo [(3,0)] λ j=>?_
  refine wql p8 (λ a8 a w=>∃ M1 Q,Sx (Frm.of w0) 23 M M1 [oneB Q] [(0,dt x0),(4,dt a8.2)] [(3,0,dtip Q 109 a8.1)] a w) fx ?_
  rintro a8 b5 _ _ ⟨_,Q,j⟩ a9 b3
  have h:jC x0 a8=some b5:=a9
  unfold jC at h
  refine j.zd [(3,0)] h (λ j h=>?_) λ j h=>?_
  ·have⟨b9,c8,d1,b6,h⟩:=Ke h
   have⟨d2,b7,h⟩:=bs h
   refine QY<|j.zh 8 [(3,0),(21,0)] (λ j=>?_) (hs:=sZ 6 (r:=by exact sc Z (oK (zcn b6))<|sc Z (xIdxT Z kS43 T T b7)<|.nil))
   have⟨d3,b8,h⟩:=bs h
   refine j.storeT (sb:=3) 0 (tp Z) b8 [0,4] [] (λ _ _ j=>Wz ?_)
   have⟨d4,d5,h⟩:=bs h
   exact j.zn [(3,0)] h
  have h:=lo h b3
  cases h
  exact fz
 exact j.zl 0 h
def qj(x0:List Int)(a8:(List Int)×Int):Option (((List Int)×Int)⊕(List Int)):=
if(cmpI .lss a8.2 (x0.length:Int))=true then((atI x0 a8.2).bind λ a9=>
(atI a8.1 a8.2).bind λ _b6=>
(setO a8.1 a8.2 a9).bind λ b3=>
(i64 (a8.2+(1:Int))).bind λ b5=>
some (.inl (b3,b5)))
else(some (.inr a8.1))
def Zn(x0:List Int):Option (List Int):=
(zaK 1 8 (x0.length:Int) zInt).bind λ v5=>
Option.bind (α:=(List Int)) (zE (λ a8=>qj x0 a8) (v5,(0:Int))) λ o8=>
some o8
theorem QU{x0 r}(h:Zn x0=some r):FnOwn prog 12 [dt x0] 3 r:=by
 refine fqO 1 func12 λ M w0 _ j=>?_
 refine j.z1 (λ j=>?_) (hs:=sc Z (oA Z (jE (α:=Int) (e:=3)))<|.nil)
 refine QY<|j.zg 2 λ j=>?_
 have⟨v5,p5,h⟩:=bs h
 refine j.make 0 Z Z kE23 kZ3 jR Z (gl Z) p5 [0] Z [] Z Z λ g4 _ _ _ j=>?_
 refine j.zh 1 [(3,0)] (λ j=>Wz ?_)
 refine za<|j.jmq 1 [] (λ _=>[]) (λ o8 q=>[(3,0,dtip (q 0) 3 o8)]) h (λ o8 p8=>?_) λ o8 q8 _ _ _ j h=>?_
 ·refine j.zo [(3,0)] λ j=>?_
  refine wql p8 (λ a8 a w=>∃ M1 Q,Sx (Frm.of w0) 22 M M1 [oneB Q] [(0,dt x0),(4,dt a8.2)] [(3,0,dtip Q 3 a8.1)] a w) fx ?_
  rintro a8 b5 _ _ ⟨_,Q,j⟩ a9 b3
  have h:qj x0 a8=some b5:=a9
  unfold qj at h
  refine j.zd [(3,0)] h (λ j h=>?_) λ j h=>?_
  ·have⟨b8,b9,c8,b6,h⟩:=Ke h
   refine QY<|j.zh 7 [(3,0),(20,0)] (λ j=>?_) (hs:=sZ 6 (r:=by exact sc Z (xIdxT Z kS23 T T b6)<|.nil))
   have⟨d1,b7,h⟩:=bs h
   refine j.storeT (sb:=3) 0 (tp Z) b7 [0,4] [] (λ _ _ j=>Wz ?_)
   have⟨d2,d3,h⟩:=bs h
   exact j.zn [(3,0)] h
  have h:=lo h b3
  cases h
  exact fz
 exact j.zl 0 h
def Ja(x0:File):Option File:=
(Wt x0.body).bind λ a8=>
some (⟨x0.root,x0.pkg,x0.name,x0.init,x0.stamp,a8⟩:File)
theorem laws_toFile_w{x0 r}(h:Ja x0=some r):FnN prog 65 [dt x0] (.ow (owFile (Ow.row 109 (Ow.frz (α:=Stmt)))) r):=by
 refine fnN (fn:=f65) 3 func65 Z Z (λ M _ _ j=>wqw ?_)
 refine QY<|j.zg 1 λ j=>?_
 refine j.alcW (ow:=(owFile (Ow.row 109 (Ow.frz (α:=Stmt))))) 1 (owFile.z Ow.row_z) [1] [] (λ b2 _ _ _ j=>Wz ?_)
 refine QY<|j.alcW (ow:=(owFile (Ow.row 109 (Ow.frz (α:=Stmt))))) 2 (owFile.z Ow.row_z) [1] [2] (λ b3 _ _ _ j=>Wz ?_)
 refine QY<|j.zh 3 [(2,1),(3,2)] (λ j=>?_) (hs:=sZ 2 (r:=by exact sc Z (xFa Z kF45_0 U)<|.nil))
 refine j.sfA 3 2 (Pb.fld owFile.f0) (tp Z) (tp Z) [1] [2] (λ j=>Wz ?_)
 refine QY<|j.zh 3 [(2,1),(3,2)] (λ j=>?_) (hs:=sZ 2 (r:=by exact sc Z (xFa Z kF45_1 U)<|.nil))
 refine j.sfA 3 2 (Pb.fld owFile.f1) (tp Z) (tp Z) [1] [2] (λ j=>Wz ?_)
 refine QY<|j.zh 3 [(2,1),(3,2)] (λ j=>?_) (hs:=sZ 2 (r:=by exact sc Z (xFa Z kF45_2 U)<|.nil))
 refine j.sfA 3 2 (Pb.fld owFile.f2) (tp Z) (tp Z) [1] [2] (λ j=>Wz ?_)
 refine QY<|j.zh 3 [(2,1),(3,2)] (λ j=>?_) (hs:=sZ 2 (r:=by exact sc Z (xFa Z kF45_3 U)<|.nil))
 refine j.sfA 3 2 (Pb.fld owFile.f3) (tp Z) (tp Z) [1] [2] (λ j=>Wz ?_)
 refine QY<|j.zh 3 [(2,1),(3,2)] (λ j=>?_) (hs:=sZ 2 (r:=by exact sc Z (xFa Z kF45_4 U)<|.nil))
 refine j.sfA 3 2 (Pb.fld owFile.f4) (tp Z) (tp Z) [1] [2] (λ j=>Wz ?_)
 refine QY<|j.zh 2 [(2,1),(3,2)] λ j=>?_
 have⟨a9,a8,h⟩:=bs h
 refine j.cN (l:=[.tmp 20]) 0 (.cons T .nil) (zfC a8).n [] [2,3] λ j=>?_
 refine j.zh 1 [(2,1),(3,2),(21,0)] (λ j=>?_) (hs:=sc Z (xFa Z kF45_5 U)<|.nil)
 refine j.stO (sb:=3) (tv:=21) 2 0 (Pb.fld owFile.f5) (tp Z) [] [2] (λ j=>Wz ?_)
 refine QY<|j.ldW (sb:=3) 2 [] [2] λ j=>?_
 refine j.stO (sb:=2) (tv:=23) 1 2 Pb (zt Z) [] [] (λ j=>Wz ?_)
 exact j.rnC 1 h
def JN(x0:GAct):Option GAct:=
(Ja x0.file).bind λ v8=>
some (⟨x0.kind,v8,x0.index,x0.name⟩:GAct)
theorem laws_toAct_w{x0 r}(h:JN x0=some r):FnN prog 35 [dt x0] (.ow (owGAct (owFile (Ow.row 109 (Ow.frz (α:=Stmt))))) r):=by
 refine fnN (fn:=f35) 3 func35 Z Z (λ M _ _ j=>wqw ?_)
 refine QY<|j.zg 1 λ j=>?_
 refine j.alcW (ow:=(owGAct (owFile (Ow.row 109 (Ow.frz (α:=Stmt)))))) 1 (owGAct.z (owFile.z Ow.row_z)) [1] [] (λ b2 _ _ _ j=>Wz ?_)
 refine QY<|j.alcW (ow:=(owGAct (owFile (Ow.row 109 (Ow.frz (α:=Stmt)))))) 2 (owGAct.z (owFile.z Ow.row_z)) [1] [2] (λ b3 _ _ _ j=>Wz ?_)
 refine QY<|j.zh 3 [(2,1),(3,2)] (λ j=>?_) (hs:=sZ 2 (r:=by exact sc Z (xFa Z kF47_0 U)<|.nil))
 refine j.sfA 3 2 (Pb.fld owGAct.f0) (tp Z) (tp Z) [1] [2] (λ j=>Wz ?_)
 refine QY<|j.zh 2 [(2,1),(3,2)] λ j=>?_
 have⟨v8,p8,h⟩:=bs h
 refine j.cN (l:=[.tmp 8]) 0 (.cons T .nil) (laws_toFile_w p8) [1] [2,3] λ j=>?_
 refine j.zh 1 [(2,1),(3,2),(9,0)] (λ j=>?_) (hs:=sc Z (xFa Z kF47_1 U)<|.nil)
 refine j.stO (sb:=3) (tv:=9) 2 0 (Pb.fld owGAct.f1) (tp Z) [1] [2] (λ j=>Wz ?_)
 refine QY<|j.zh 3 [(2,1),(3,2)] (λ j=>?_) (hs:=sZ 2 (r:=by exact sc Z (xFa Z kF47_2 U)<|.nil))
 refine j.sfA 3 2 (Pb.fld owGAct.f2) (tp Z) (tp Z) [1] [2] (λ j=>Wz ?_)
 refine QY<|j.zh 3 [(2,1),(3,2)] (λ j=>?_) (hs:=sZ 2 (r:=by exact sc Z (xFa Z kF47_3 U)<|.nil))
 refine j.sfA 3 2 (Pb.fld owGAct.f3) (tp Z) (tp Z) [] [2] (λ j=>Wz ?_)
 refine QY<|j.ldW (sb:=3) 2 [] [2] λ j=>?_
 refine j.stO (sb:=2) (tv:=17) 1 2 Pb (zt Z) [] [] (λ j=>Wz ?_)
 exact j.rnC 1 h
def qk(x0:List GAct)(a8:(List GAct)×Int):Option (((List GAct)×Int)⊕(List GAct)):=
if(cmpI .lss a8.2 (x0.length:Int))=true then((atI x0 a8.2).bind λ a9=>
(JN a9).bind λ b3=>
(atI a8.1 a8.2).bind λ _b6=>
(i64 (a8.2+(1:Int))).bind λ b5=>
some (.inl ((a8.1.set a8.2.toNat b3),b5)))
else(some (.inr a8.1))
def Yx(x0:List GAct):Option (List GAct):=
(zaK 9 112 (x0.length:Int) zGAct).bind λ v4=>
Option.bind (α:=(List GAct)) (zE (λ a8=>qk x0 a8) (v4,(0:Int))) λ o8=>
some o8
theorem QV{x0 r}(h:Yx x0=some r):FnN prog 11 [dt x0] (.ow (Ow.row 47 (owGAct (owFile (Ow.row 109 (Ow.frz (α:=Stmt)))))) r):=by
 refine fnN (fn:=f11) 2 func11 Z Z (λ M w0 _ j=>wqw ?_)
 refine j.rg2 (sc Z (oA Z (wu (α:=GAct)))<|.nil) [0] (λ _ _ j=>QY ?_)
 refine j.segA 2 [0,6] [] λ j=>?_
 have⟨v4,p4,h⟩:=bs h
 refine j.makeW (ow:=(owGAct (owFile (Ow.row 109 (Ow.frz (α:=Stmt)))))) 0 Z Z kE27 kZ47 (owGAct.z (owFile.z Ow.row_z)) Z p4 [0] Z [] Z Z λ _ _ _ _ j=>?_
 refine j.nmR (s:=7) 0 [] λ g6 A6 _ hA6 j=>?_
 refine j.segA 1 [0] [(3,0)] (λ j=>Wz ?_)
 refine za ?_
 have⟨o8,p8,k8⟩:=bs h
 refine wqj (λ a w=>∃ M1 Q R,Sx (Frm.of w0) 23 M M1 [Q,R] [] [(3,0,dow (Ow.row 47 (owGAct (owFile (Ow.row 109 (Ow.frz (α:=Stmt)))))) Q o8)] a w) ?_ ?_
 ·refine j.rgA [0,4] [(3,0)] λ j=>?_
  have j:=j.unm (s:=3) 0 []
  refine wql p8 (λ a9 a w=>∃ M1 Q R,Sx (Frm.of w0) 23 M M1 [Q,R] [(0,dt x0),(4,dt a9.2)] [(3,0,dow (Ow.row 47 (owGAct (owFile (Ow.row 109 (Ow.frz (α:=Stmt)))))) Q a9.1)] a w) fx ?_
  rintro a9 b7 _ _ ⟨_,Q,R,j⟩ b3 b5
  have h:qk x0 a9=some b7:=b3
  unfold qk at h
  refine j.rgA [0,4,11] [(3,0)] λ j=>?_
  refine j.cq h (λ h=>?_) λ h=>?_
  ·have⟨c8,d1,h⟩:=bs h
   refine QY<|j.nmR (s:=3) 0 [] λ d2 d3 _ a8 j=>?_
   refine j.segA 6 [0,4,15,19] [(3,0),(14,0)] λ j=>?_
   have⟨d4,b8,h⟩:=bs h
   refine j.cN (l:=[.tmp 19]) 1 (.cons T .nil) (laws_toAct_w b8) [0,4,15] [3,14] λ j=>?_
   have⟨d5,b6,h⟩:=bs h
   refine j.segB 1 (sc Z (xIaN Z kS27 Z T a8 b6)<|.nil) [0,4,21] [(3,0),(14,0),(20,1)] λ j=>?_
   refine j.stO (sb:=3) (tv:=20) 0 1 (PV.root.row Z a8 b6) (tp Z) [0,4] [] (λ j=>Wz ?_)
   have⟨d6,d7,h⟩:=bs h
   refine j.rgA [0,4] [(3,0)] λ j=>?_
   have j:=j.unm (s:=3) 0 []
   exact flz h
  have h:=lo h b5
  cases h
  exact fz
 rintro _ _ ⟨_,Q,R,j⟩
 have h:=k8
 refine j.nmR (s:=3) 0 [] λ e0 e3 _ b9 j=>?_
 refine j.rgA [] [(2,0)] λ j=>?_
 have j:=j.unm (s:=2) 0 []
 exact j.rnO 0 h
def XE(x0:Stmt)(x1:Stmt):Option Bool:=
if cmpI .neq x0.kind x1.kind then(some false)
else(if(decide (x0.module≠x1.module))=true then(some false)
else(if cmpI .neq x0.level x1.level then(some false)
else(if(decide (x0.name≠x1.name))=true then(some false)
else(if cmpI .neq x0.value x1.value then(some false)
else(some true)))))
theorem laws_eqStmt_w{x0 x1}(h:XE x0 x1=some r):Fn prog 165 [dt x0,dt x1] (dt r):=by
 refine fq1 0 func165 λ M _ _ j=>?_
 refine j.z1 λ j=>?_
 refine j.zc h (λ j h=>?_) λ j h=>?_
 ·exact j.ze h
 refine j.zc h (λ j h=>?_) λ j h=>?_
 ·exact j.ze h
 refine j.zc h (λ j h=>?_) λ j h=>?_
 ·exact j.ze h
 refine j.zc h (λ j h=>?_) λ j h=>?_
 ·exact j.ze h
 refine j.zc h (λ j h=>?_) λ j h=>?_
 ·exact j.ze h
 exact j.ze h
instance:Ct2 prog 165 dt dt dt XE:=⟨λ h=>laws_eqStmt_w h⟩
def Zc(x0:List Stmt)(x1:List Stmt)(s8:Int):Option (Int⊕(Unit⊕Bool)):=
if(cmpI .lss s8 (x0.length:Int))=true then((atI x0 s8).bind λ a8=>
(atI x1 s8).bind λ a9=>
(XE a8 a9).bind λ b3=>
if(!b3)=true then(some (.inr (.inr false)))
else((i64 (s8+(1:Int))).bind λ b5=>
some (.inl b5)))
else(some (.inr (.inl ())))
def Y4(x0:List Stmt)(x1:List Stmt):Option Bool:=
if(cmpI .neq (x0.length:Int) (x1.length:Int))=true then(some false)
else(Option.bind (α:=Unit⊕Bool) (zE (λ s8=>Zc x0 x1 s8) (0:Int)) (Sum.elim (λ _b6=>
some true) some))
theorem zfD{x0 x1}(h:Y4 x0 x1=some r):Fn prog 123 [dt x0,dt x1] (dt r):=by
 refine fq1 0 func123 λ M w0 _ j=>?_
 refine j.z1 λ j=>?_
 refine j.zc h (λ j h=>?_) λ j h=>?_
 ·exact j.ze h
 refine wqk<|za<|j.jb [] (λ _=>[]) h (λ o6 p6 k6=>?_) λ b6 _ _ j h=>?_
 ·refine j.z1 λ j=>?_
  refine wql p6 (λ s8 a w=>Sx (Frm.of w0) 27 M M [] [(0,dt x0),(1,dt x1),(5,dt s8)] [] a w) (j.sel0 [0,1,5]) ?_
  rintro s8 z8 _ _ j hs8 hx8
  have h:Zc x0 x1 s8=some z8:=hs8
  unfold Zc at h
  refine j.zc h (λ j h=>?_) λ j h=>?_
  ·have⟨a8,a9,h⟩:=bs h
   have⟨b3,b5,b7,b8,h⟩:=Ke h
   refine j.zw λ j=>?_
   refine j.cq h (λ h=>?_) λ h=>?_
   ·exact j.ze (jo (lo h hx8) k6)
   have⟨b9,c8,h⟩:=bs h
   exact j.zn [] h
  have h:=lo h hx8
  exact flz h
 exact j.ze h
instance:Ct2 prog 123 dt dt dt Y4:=⟨λ h=>zfD h⟩
def XF(x0:File)(x1:File):Option Bool:=
if cmpI .neq x0.root x1.root then(some false)
else(if(decide (x0.pkg≠x1.pkg))=true then(some false)
else(if(decide (x0.name≠x1.name))=true then(some false)
else(if(x0.init != x1.init)=true then(some false)
else(if cmpI .neq x0.stamp x1.stamp then(some false)
else((Y4 x0.body x1.body).bind λ a8=>
if(!a8)=true then(some false)
else(some true))))))
theorem laws_eqFile_w{x0 x1}(h:XF x0 x1=some r):Fn prog 74 [dt x0,dt x1] (dt r):=by
 refine fq1 0 func74 λ M _ _ j=>?_
 refine j.z1 λ j=>?_
 refine j.zc h (λ j h=>?_) λ j h=>?_
 ·exact j.ze h
 refine j.zc h (λ j h=>?_) λ j h=>?_
 ·exact j.ze h
 refine j.zc h (λ j h=>?_) λ j h=>?_
 ·exact j.ze h
 refine j.zc h (λ j h=>?_) λ j h=>?_
 ·exact j.ze h
 refine j.zc h (λ j h=>?_) λ j h=>?_
 ·exact j.ze h
 have⟨a8,a9,h⟩:=bs h
 refine j.zc h (λ j h=>?_) λ j h=>?_
 ·exact j.ze h
 exact j.ze h
instance:Ct2 prog 74 dt dt dt XF:=⟨λ h=>laws_eqFile_w h⟩
def ZZ(x0:List Int)(x1:List Int)(s8:Int):Option (Int⊕(Unit⊕Bool)):=
if(cmpI .lss s8 (x0.length:Int))=true then((atI x0 s8).bind λ a8=>
(atI x1 s8).bind λ a9=>
if cmpI .neq a8 a9 then(some (.inr (.inr false)))
else((i64 (s8+(1:Int))).bind λ b3=>
some (.inl b3)))
else(some (.inr (.inl ())))
def Yy(x0:List Int)(x1:List Int):Option Bool:=
if(cmpI .neq (x0.length:Int) (x1.length:Int))=true then(some false)
else(Option.bind (α:=Unit⊕Bool) (zE (λ s8=>ZZ x0 x1 s8) (0:Int)) (Sum.elim (λ _b6=>
some true) some))
theorem zco{x0 x1}(h:Yy x0 x1=some r):Fn prog 15 [dt x0,dt x1] (dt r):=by
 refine fq1 0 func15 λ M w0 _ j=>?_
 refine j.z1 λ j=>?_
 refine j.zc h (λ j h=>?_) λ j h=>?_
 ·exact j.ze h
 refine wqk<|za<|j.jb [] (λ _=>[]) h (λ o6 p6 k6=>?_) λ b6 _ _ j h=>?_
 ·refine j.z1 λ j=>?_
  refine wql p6 (λ s8 a w=>Sx (Frm.of w0) 26 M M [] [(0,dt x0),(1,dt x1),(5,dt s8)] [] a w) (j.sel0 [0,1,5]) ?_
  rintro s8 z8 _ _ j hs8 hx8
  have h:ZZ x0 x1 s8=some z8:=hs8
  unfold ZZ at h
  refine j.zc h (λ j h=>?_) λ j h=>?_
  ·have⟨a8,a9,h⟩:=bs h
   have⟨b3,b5,h⟩:=bs h
   refine j.zw λ j=>?_
   refine j.cq h (λ h=>?_) λ h=>?_
   ·exact j.ze (jo (lo h hx8) k6)
   have⟨b7,b8,h⟩:=bs h
   exact j.zn [] h
  have h:=lo h hx8
  exact flz h
 exact j.ze h
instance:Ct2 prog 15 dt dt dt Yy:=⟨λ h=>zco h⟩
def Wu(x0:GAct)(x1:GAct):Option Bool:=
if cmpI .neq x0.kind x1.kind then(some false)
else((XF x0.file x1.file).bind λ v6=>
if(!v6)=true then(some false)
else(if cmpI .neq x0.index x1.index then(some false)
else(if(decide (x0.name≠x1.name))=true then(some false)
else(some true))))
theorem laws_eqAct_w{x0 x1}(h:Wu x0 x1=some r):Fn prog 39 [dt x0,dt x1] (dt r):=by
 refine fq1 0 func39 λ M _ _ j=>?_
 refine j.z1 λ j=>?_
 refine j.zc h (λ j h=>?_) λ j h=>?_
 ·exact j.ze h
 have⟨v6,p6,h⟩:=bs h
 refine j.zc h (λ j h=>?_) λ j h=>?_
 ·exact j.ze h
 refine j.zc h (λ j h=>?_) λ j h=>?_
 ·exact j.ze h
 refine j.zc h (λ j h=>?_) λ j h=>?_
 ·exact j.ze h
 exact j.ze h
instance:Ct2 prog 39 dt dt dt Wu:=⟨λ h=>laws_eqAct_w h⟩
def Z0(x0:List GAct)(x1:List GAct)(s8:Int):Option (Int⊕(Unit⊕Bool)):=
if(cmpI .lss s8 (x0.length:Int))=true then((atI x0 s8).bind λ a8=>
(atI x1 s8).bind λ a9=>
(Wu a8 a9).bind λ b3=>
if(!b3)=true then(some (.inr (.inr false)))
else((i64 (s8+(1:Int))).bind λ b5=>
some (.inl b5)))
else(some (.inr (.inl ())))
def Yz(x0:List GAct)(x1:List GAct):Option Bool:=
if(cmpI .neq (x0.length:Int) (x1.length:Int))=true then(some false)
else(Option.bind (α:=Unit⊕Bool) (zE (λ s8=>Z0 x0 x1 s8) (0:Int)) (Sum.elim (λ _b6=>
some true) some))
theorem zcp{x0 x1}(h:Yz x0 x1=some r):Fn prog 14 [dt x0,dt x1] (dt r):=by
 refine fq1 0 func14 λ M w0 _ j=>?_
 refine j.z1 λ j=>?_
 refine j.zc h (λ j h=>?_) λ j h=>?_
 ·exact j.ze h
 refine wqk<|za<|j.jb [] (λ _=>[]) h (λ o6 p6 k6=>?_) λ b6 _ _ j h=>?_
 ·refine j.z1 λ j=>?_
  refine wql p6 (λ s8 a w=>Sx (Frm.of w0) 27 M M [] [(0,dt x0),(1,dt x1),(5,dt s8)] [] a w) (j.sel0 [0,1,5]) ?_
  rintro s8 z8 _ _ j hs8 hx8
  have h:Z0 x0 x1 s8=some z8:=hs8
  unfold Z0 at h
  refine j.zc h (λ j h=>?_) λ j h=>?_
  ·have⟨a8,a9,h⟩:=bs h
   have⟨b3,b5,b7,b8,h⟩:=Ke h
   refine j.zw λ j=>?_
   refine j.cq h (λ h=>?_) λ h=>?_
   ·exact j.ze (jo (lo h hx8) k6)
   have⟨b9,c8,h⟩:=bs h
   exact j.zn [] h
  have h:=lo h hx8
  exact flz h
 exact j.ze h
instance:Ct2 prog 14 dt dt dt Yz:=⟨λ h=>zcp h⟩
def qD(R:Rec)(x0:List GAct)(x1:List Int)(x2:Int):Option Bool:=
if(cmpI .gtr (x1.length:Int) 1048576)=true then(some true)
else((XC x0 (1048576:Int)).bind λ v7=>
if cmpI .lss v7 0 then(some true)
else((Yx x0).bind λ b6=>
(Zn x1).bind λ b7=>
(ZX R b6 b7 x2).bind λ a8=>
(Yx x0).bind λ a9=>
(Zn x1).bind λ b3=>
(ZQ R a9 b3 x2).bind λ b5=>
if(cmpI .neq b5.1 a8.1||cmpI .neq b5.2 a8.2)=true then(some false)
else((Yx x0).bind λ b8=>
(Yz a9 b8).bind λ b9=>
if(!b9)=true then(some false)
else((Zn x1).bind λ c8=>
(Yy b3 c8).bind λ d1=>
if(!d1)=true then(some false)
else(some true)))))
theorem zaW(hR:R.ok){x0 x1 x2}(h:qD R x0 x1 x2=some r):Fn prog 3 [dt x0,dt x1,dt x2] (dt r):=by
 unfold qD at h
 refine fnx (fn:=f3) 0 func3 Z Z λ M _ _ j=>?_
 refine j.sq1 [0,1,2] (λ j=>Ka ?_)
 refine j.sq1 [0,1,2,16] λ j=>?_
 refine j.cs h (λ _ h=>?_) λ _ h=>?_
 ·refine j.sq1 [6] (λ j=>wp_ret (zZ ?_))
  exact j.ret Z Z h
 refine aC<|za<|j.sq1 [0,1,2,7] λ j=>?_
 obtain⟨v7,p7,h⟩:=bsW h zcm
 refine j.sq1 [0,1,2,7] (λ j=>Ka ?_)
 refine j.sq1 [0,1,2,21] λ j=>?_
 refine j.cs h (λ _ h=>?_) λ _ h=>?_
 ·refine j.sq1 [6] (λ j=>wp_ret (zZ ?_))
  exact j.ret Z Z h
 have⟨d1,a8,d2,a9,h⟩:=Ke h
 have⟨d3,b3,h⟩:=bs h
 refine aC<|za<|j.sq2 (sP 1 (r:=by exact sc Z (oK (FnN.fn<|QV a8))<|sP 1 (r:=by exact sc Z (zA (l:=[.tmp 25]) Z (.cons T .nil) ((QU a9)).fn)<|sP 1 (r:=by exact sc Z (oK (zfA hR b3))<|segC)))) [0,1,2,8,9] λ j=>?_
 have⟨d4,b5,h⟩:=bs h
 refine j.sq2 (sP 1 (r:=by exact sc Z (oK (FnN.fn<|QV b5))<|segC)) [0,1,2,8,9,10] λ j=>?_
 have⟨d5,b6,h⟩:=bs h
 refine j.sq2 (sP 1 (r:=by exact sc Z (zA (l:=[.tmp 33]) Z (.cons T .nil) ((QU b6)).fn)<|segC)) [0,1,2,8,9,10,11] λ j=>?_
 obtain⟨d6,d7,h⟩:=bsW h (zfr hR)
 refine j.sq1 [0,1,8,9,10,11,12,13] (λ j=>Ka ?_)
 refine j.sq3 [0,1,10,11,49] λ _ _ j=>?_
 refine j.cs h (λ _ h=>?_) λ _ h=>?_
 ·refine j.sq1 [6] (λ j=>wp_ret (zZ ?_))
  exact j.ret Z Z h
 have⟨e0,b7,e3,b8,h⟩:=Ke h
 refine aC<|za<|Ka<|j.sq2 (sP 2 (r:=by exact sc Z (oK (FnN.fn<|QV b7))<|sc Z (oK (zcp b8))<|segC)) [1,11,54] λ j=>?_
 refine j.cs h (λ _ h=>?_) λ _ h=>?_
 ·refine j.sq1 [6] (λ j=>wp_ret (zZ ?_))
  exact j.ret Z Z h
 have⟨e4,b9,e5,c8,h⟩:=Ke h
 refine aC<|za<|Ka<|j.sq2 (sP 2 (r:=by exact sc Z (zA (l:=[.tmp 56]) Z (.cons T .nil) ((QU b9)).fn)<|sc Z (oK (zco c8))<|segC)) [59] λ j=>?_
 refine j.cs h (λ _ h=>?_) λ _ h=>?_
 ·refine j.sq1 [6] (λ j=>wp_ret (zZ ?_))
  exact j.ret Z Z h
 refine aC<|za<|j.sq1 [6] (λ j=>wp_ret ?_)
 exact j.ret Z Z h
