import Derived.Test.YtoomehfflopakaaGreatDoorTN
namespace Go.Proofs.YtoomehfflopakaaGreatDoor
open Go.RowKit Tryz
attribute [local irreducible] eP eC
set_option maxRecDepth 10000
set_option maxHeartbeats 1600000
variable{x1:Int}{bw:Nat}{r x0:Runner}{x2 x3 x4:Str}
theorem WM:fR prog 119 2 2=true:=by kernel_rfl
theorem FV:fM prog 117 false 1=true:=by kernel_rfl
theorem Ws:gV prog 117 6=true:=by kernel_rfl
theorem O5:fR prog 119 3 3=true:=by kernel_rfl
instance V3:fT prog 119 2 2:=⟨WM⟩
instance V5:fT prog 119 3 3:=⟨O5⟩
instance aah:fT prog 142 5 5:=⟨Qc⟩
instance aal:fT prog 166 2 2:=⟨uT⟩
instance aaJ:fT prog 72 0 0:=⟨QJ⟩
instance aaL:fT prog 72 1 1:=⟨uV⟩
instance aaN:fT prog 72 2 2:=⟨uW⟩
def Jk(x0:Tree)(x1:List Int)(x2:Int):Option Runner:=
 some ⟨x0,x1,[],[],[],0,x2,(⟨(⟨false,xc,xb,[],0⟩:ga)⟩:Bx ga)⟩
theorem UO{x0 x1 x2}(h:Jk x0 x1 x2=some r):iF prog 63 [dt x0,dt x1,dt x2] (.ow (Ow.box (fa vh py iV (Ow.eE (α:=Bx ga)))) ⟨r⟩):=by
 refine mW (fn:=f63) 4 func63 Z Z (λ M _ _ j=>gj ?_);refine j.z1 (λ j=>?_) (hs:=sZ 1 (r:=by exact sc Z (oA Z Gz)<|.nil));refine Ka<|j.zg 5 (λ j=>?_) (hs:=sZ 3 (r:=by exact sc Z (yf (parts:=[]) (ns:=[1,3,3,1,1]) (zs:=KX) Z Z (λ w a hl=>by simp) (λ w a hl=>ga.parts (x:=(⟨false,xc,xb,[],0⟩:ga)) ⟨Z,trivial⟩ (jc _ _) (DE _ _) yF ⟨Z,trivial⟩))<|eI));have j:=j.lI (s:=11) (y:=dt (⟨(⟨false,xc,xb,[],0⟩:ga)⟩:Bx ga)) (uC.2 (j.st.has 11 _ Z));refine j.lN (ow:=(fa vh py iV (Ow.eE (α:=Bx ga)))) (parts:=[(0,.tmp 7),(1,.tmp 8),(6,.tmp 9),(7,.tmp 11)]) (ns:=[1,1,1,1,1,1,1,1]) (zs:=VS) (x:=(⟨x0,x1,[],[],[],0,x2,(⟨(⟨false,xc,xb,[],0⟩:ga)⟩:Bx ga)⟩:Runner)) 3 [] (FA ⟨by decide,ey.len (α:=Tree) (j.oc T)⟩ (FA ⟨by decide,ey.len (α:=List Int) (j.oc T)⟩ (FA ⟨by decide,ey.len (α:=Int) (j.oc T)⟩ (FA ⟨by decide,ey.len (α:=Bx ga) (j.oc T)⟩ FN)))) (((fa vh py iV (Ow.eE (α:=Bx ga)))).more (fa.mk (x:=(⟨x0,x1,[],[],[],0,x2,(⟨(⟨false,xc,xb,[],0⟩:ga)⟩:Bx ga)⟩:Runner)) (g7:=noB) (j.oc T) (j.oc T) (Ow.gB _ _) (Ow.gB _ _) (Ow.gB _ _) ⟨Z,trivial⟩ (j.oc T) (j.oc T) (λ b h1=>(λ h2=>h2.elim (λ h2=>h2.elim) (λ h2=>h2.elim (λ h2=>h2.elim) (λ h2=>h2.elim)))) (λ b h1=>(λ h2=>h2.elim (λ h2=>h2.elim) (λ h2=>h2.elim))) (λ b h1=>(λ h2=>h2.elim))) (λ b=>(λ hb=>hb.elim (λ hb=>hb.elim) (λ hb=>hb.elim (λ hb=>hb.elim) (λ hb=>hb.elim (λ hb=>hb.elim) (λ hb=>hb.elim)))))) [] [] (@λ G3 _ _ j=>?_);have j:=j.gs (Gs':=[eA none,eA none,eA none,G3]);have j:=j.gs (Gs':=[eA none,eA none,eA none,G3]);refine j.nT 0 3 [] [] λ b7 _ _ _ _ j=>?_;have j:=j.gn;refine j.zh 1 [(6,0)] (λ j=>Kb ?_);have j:=j.fv (s:=6) 0 [];exact j.pS 0 (iy h)
def Za(x0:Runner)(x1:Str)(s4:Int):Option (Int⊕(Unit⊕(Runner×Int))):=
 ite ((ez .lss s4 x0.mods.length)=true) ((eN x0.mods s4).bind λ a8=>
(gO (decide (a8.name=x1) == true) (eN x0.mods s4)).bind λ a9=>
 ite ((decide (a8.name=x1)&&a9.cached)=true) (some (.inr (.inr (x0,s4))))<|(i64 (s4+1)).bind λ b3=>
 some (.inl b3))<|some (.inr (.inl ()))
def wH(x0:Runner)(x1:Str):Option (Runner×Int):=
 Option.bind (zE (λ s4=>Za x0 x1 s4) 0) (Sum.elim (λ b2=>
 some (x0,(-1))) some)
theorem Ys{x1 r}(h:wH x0 x1=some r):fP prog 101 (iJ bw) ⟨x0⟩ [dt x1] ⟨r.1⟩ (.eE (dt r.2)):=by
 refine kI (fn:=f101) 0 1 func101 Z Z (λ M G w0 b0 _ j=>gj ?_);refine j.zo [(0,0)] (λ j=>za ?_);have⟨o2,p2,k2⟩:=bs h;refine ib (λ a w=>∃ b2,o2=.inl b2/\(∃ M1 Q,Sx (eG.ft w0 G) 36 M M1 [Q] [] [(0,0,eJ (iJ bw) Q ⟨x0⟩ (.pointer (some ⟨b0,0,none⟩)) [])] a w)) ?_ ?_
 .refine j.zo [(0,0)] λ j=>?_
  refine gk p2 (λ s4 a w=>∃ M1 Q,Sx (eG.ft w0 G) 36 M M1 [Q] [(1,dt x1),(5,dt s4)] [(0,0,eJ (iJ bw) Q ⟨x0⟩ (.pointer (some ⟨b0,0,none⟩)) [])] a w) fx ?_;rintro s4 z4 _ _ ⟨_,Q,j⟩ h hx4;refine j.fL 0 0 (Pb.eD fa.f2) [] λ g6 A6 _ hA6 j=>?_;refine j.zo [(0,0)] (λ j=>?_) (hs:=sZ 5 (r:=by exact sc Z (oE Z T)<|eI));have j:=j.gS (s:=0) 0 [];refine j.cq h (λ h=>?_) λ h=>?_
  .have⟨b6,b3,h⟩:=bs h
   refine kB h λ b9 b5 h=>j.fL 0 0 (Pb.eD fa.f2) [] λ b7 c8 _ a8 j=>?_;refine j.oZ (s:=0) 0 (decide (b6.name=x1) == true) (λ hg=>(Pb.eD fa.f2)) [] λ b8 d1 _ a9 j=>?_;refine j.zo [(0,0)] (λ j=>?_) (hs:=sc Z (oM Z U)<|
     sc Z (gK Z T)<|
     sc Z (eV Z WM T)<|
     sc Z (fS (sb:=0) (.tail _ (.head _)) Z Z Z T Z)<|
     sc Z (oM Z T)<|
     sc Z (gJ (g:=b7) Z Ws T T Z (λ h=>a8 h Z) b3)<|
     sc Z (eV Z rK T)<|
     sc Z (gi (sb:=0) (((Pb.eD fa.f2).row (.tail _ (.head _)) Z (λ h=>a8 h Z) b3).eD fD.f0) Z T Z)<|
     sc Z (oM Z T)<|
     sc Z (YY Z T T)<|
     sc Z (oM Z T)<|
     sg Z Z (λ hg=>oM Z U)<|
     sg Z Z (λ hg=>gK Z V)<|
     sg Z Z (λ hg=>eV Z WM V)<|
     sg Z Z (λ hg=>fS (sb:=0) (.head _) hg Z Z V Z)<|
     sg Z Z (λ hg=>oM Z T)<|
     sg Z Z (λ hg=>gJ (g:=b8) Z Ws V V Z (λ h=>a9 h hg) (gh hg b5))<|
     sg Z Z (λ hg=>eV Z BE V)<|
     sg Z Z (λ hg=>gi (sb:=0) (((Pb.eD fa.f2).row (.head _) hg (λ h=>a9 h hg) (gh hg b5)).eD fD.f3) Z V Z)<|
     sc Z (xd Z T T)<|.nil)
   have j:=j.gS (s:=0) 0 [];refine j.cq h (λ h=>?_) λ h=>?_
   .refine j.zo [(0,0)] λ j=>?_
    exact j.xF 0 0 (jo (lo h hx4) k2)
   exact kB h λ d2 d3 h=>j.zn [(0,0)] h
  exact fU (lo h hx4)
 rintro _ _ ⟨b2,rfl,⟨_,Q,j⟩⟩;have h:=jn k2;refine j.zo [(0,0)] λ j=>?_;exact j.xF 0 0 h
def jL(x0:Runner)(x1:Int)(x2:Str):Option Runner:=
(fE 24 x0.log [(⟨x1,x2⟩:im)]).bind λ v8=>
 some {x0 with log:=v8}
theorem JN(h:jL x0 x1 x2=some r):fP prog 102 (iJ bw) ⟨x0⟩ [dt x1,dt x2] ⟨r⟩ .gone:=by
 refine kI (fn:=f102) 0 2 func102 Z Z (λ M G _ b0 _ j=>gj ?_);refine Ka<|j.fL 0 0 (Pb.eD fa.f3) [] λ g1 A1 _ hA1 j=>?_;refine j.zh 9 [(0,0)] (λ j=>?_) (hs:=sZ 7 (r:=by exact sc Z (FF Z T T)<|eI));refine j.iN (s:=10) (sb:=0) 0 1 (Pb.eD fa.f3) (.head _) (zR Z Z) [6,14] [] λ j=>?_;refine j.kx (s:=10) 1 (by first | (simp;done) | exact oD rfl) [0] λ g5 j=>?_;refine kB h λ v8 p8 h=>j.ic 1 yW p8 [6] [0] λ g7 j=>?_;refine j.zh 2 [(0,0),(15,1)] λ j=>?_;have j:=j.iO (s:=15) 1 [0];refine j.kg 0 15 0 1 (tp Z) [] [] (λ j=>Kb ?_);exact(j.iD (s:=0) 0 (iy h)).2
def qC(x0:List fI)(x1:Str)(s4:Int):Option (Int⊕(Unit⊕Int)):=
 ite ((ez .lss s4 x0.length)=true) ((eN x0 s4).bind λ v9=>
 ite ((decide (v9.name=x1))=true) (some (.inr (.inr s4)))<|(i64 (s4+1)).bind λ a8=>
 some (.inl a8))<|some (.inr (.inl ()))
def ZC(x0:List fI)(x1:Str):Option Int:=
 Option.bind (zE (λ s4=>qC x0 x1 s4) 0) (Sum.elim (λ b2=>
 some (-1)) some)
instance Jy:fY prog 152 dt dt dt ZC:=⟨@λ x0 x1 r h=>by
 refine fe 0 func152 λ M w0 _ j=>?_;refine j.z1 (λ j=>za ?_);refine j.jb [] (λ _=>[]) h (λ o2 p2 k2=>?_) λ b2 _ _ j h=>?_
 .refine j.z1 λ j=>?_
  refine gk p2 (λ s4 a w=>Sx (eG.of w0) 20 M M [] [(0,dt x0),(1,dt x1),(5,dt s4)] [] a w) (j.kv [0,1,5]) ?_;rintro s4 z4 _ _ j h hx4;refine j.zc h (λ j h=>?_) λ j h=>?_
  .have⟨v9,p9,h⟩:=bs h
   refine j.zc h (λ j h=>?_) λ j h=>?_
   .exact j.ze (jo (lo h hx4) k2)
   exact kB h λ a8 a9 h=>j.zn [] h
  exact fU (lo h hx4)
 exact j.ze h⟩
def wI(x0:Runner)(x1:Int)(x2:Str)(x3:fu):Option Runner:=
(eN x0.mods x1).bind λ v3=>
(ZC v3.attrs x2).bind λ v5=>
 ite (ez .geq v5 0) ((eN x0.mods x1).bind λ a8=>
(eN a8.attrs v5).bind λ b3=>
 some ({ x0 with mods:=(x0.mods.set x1.toNat ({ a8 with attrs:=(a8.attrs.set v5.toNat {b3 with value:=x3}) })) }))<|(eN x0.mods x1).bind λ a9=>
(fE 32 a9.attrs [(⟨x2,x3⟩:fI)]).bind λ b5=>
(eN x0.mods x1).bind λ b6=>
 some ({ x0 with mods:=(x0.mods.set x1.toNat {a9 with attrs:=b5}) })
theorem Xl{x3}(h:wI x0 x1 x2 x3=some r):fP prog 107 (iJ bw) ⟨x0⟩ [dt x1,dt x2,dt x3] ⟨r⟩ .gone:=by
 refine kI (fn:=f107) 0 3 func107 Z Z (λ M G _ b0 _ y=>gj ?_);refine y.zo [(0,0)] λ y=>?_;refine Kx h λ v3 p3 v5 p5 h=>y.fL 0 0 (Pb.eD fa.f2) [] λ g2 A2 _ hA2 y=>?_;refine y.fL 0 0 (((Pb.eD fa.f2).row (.head _) Z (λ h=>hA2 h Z) p3).eD fD.f5) [] λ g4 A4 _ hA4 y=>?_;refine y.zo [(0,0)] (λ y=>?_) (hs:=sZ 5 (r:=by exact sc Z (gJ (g:=g2) Z Ws T T Z (λ h=>hA2 h Z) p3)<|sZ 3 (r:=by exact sc Z (yC (l:=[.tmp 16,.tmp 17]) y.ob.sub Z (.cons (mw (sb:=0) y.ob 0 (((Pb.eD fa.f2).row (.tail _ (.head _)) Z (λ h=>hA2 h Z) p3).eD fD.f5) (.head _) Z (zR Z Z) T Z) (.cons (yG y.ob.sub T) .nil)) (Jy.1 p5) xQ)<|eI)));have y:=y.gS (s:=0) 0 [];refine y.zd [(0,0)] h (λ y h=>?_) λ y h=>?_
 .have⟨e0,b6,h⟩:=bs h
  refine kB h λ e3 c8 h=>y.fL 0 0 (Pb.eD fa.f2) [] λ d1 e4 _ a9 y=>?_;refine y.fL 0 0 (((Pb.eD fa.f2).row (.head _) Z (λ h=>a9 h Z) b6).eD fD.f5) [] λ d2 e5 _ b5 y=>?_;refine y.zu 12 [(0,0)] (λ y=>?_) (hs:=sw Z (oM Z U)<|sw Z (gK Z T)<|sw Z (eV Z WM T)<|sw Z (fS (sb:=0) (.tail _ (.head _)) Z Z Z T Z)<|sw Z (oM Z T)<|sw Z (gJ (g:=d1) Z Ws T T Z (λ h=>a9 h Z) b6)<|sw Z (eV Z Qc T)<|sw Z (fS (sb:=0) (.head _) Z Z Z T Z)<|sw Z (oM Z T)<|sw Z (zG Z T)<|sw Z (gJ (g:=d2) Z my T T Z (λ h=>b5 h Z) c8)<|sw Z (eV Z tG T)<|.nil);refine y.kM (sb:=0) 0 (((((Pb.eD fa.f2).row (.tail _ (.head _)) Z (λ h=>a9 h Z) b6).eD fD.f5).row (.head _) Z (λ h=>b5 h Z) c8).eD fI.z1) (tp Z) (tp Z) [] [] (λ y=>Kb ?_);exact(y.iD (s:=0) 0 (iy h)).1
 refine y.fL 0 0 (Pb.eD fa.f2) [] λ b7 d3 d4 a8 y=>?_;refine y.held (λ w=>w.cell? ⟨b0,2,none⟩=some (.slice d3 (x0.mods.length) d4)) zP λ _ y=>?_;refine y.tN 0 0 (y.kD (sb:=0) (.head _)) λ _ y=>?_;refine y.tk (i:=1) Z Z (by decide +kernel) (by decide +kernel) (by decide +kernel) (λ _ _ _ h=>h) (y.kD (sb:=0) (.head _)) (oH Z (y.st.has 33 _ Z)) λ _ y=>?_;refine y.tk (i:=2) Z Z (by decide +kernel) (by decide +kernel) (by decide +kernel) (λ _ _ _ h=>h) (y.kD (sb:=0) (.head _)) (mo Z WM (y.st.has 34 _ Z)) λ _ y=>?_;refine y.tk (i:=3) Z Z (by decide +kernel) (by decide +kernel) (by decide +kernel) (λ _ _ _ h=>h) (y.kD (sb:=0) (.head _)) (pC Z FV (y.st.has 35 _ Z) (λ _ h=>h)) λ _ y=>?_;refine y.AL (i:=5) (sb:=0) Z Z (y.kD (sb:=0) (.head _)) Z Z Z λ _ y=>?_;refine y.tk (i:=6) Z Z (by decide +kernel) (by decide +kernel) (by decide +kernel) (λ _ _ _ h=>h) (y.kD (sb:=0) (.head _)) (oH Z (y.st.has 38 _ Z)) λ _ y=>?_;refine y.tk (i:=7) Z Z (by decide +kernel) (by decide +kernel) (by decide +kernel) (λ _ _ _ h=>h) (y.kD (sb:=0) (.head _)) (mo Z WM (y.st.has 39 _ Z)) λ _ y=>?_;refine y.tk (i:=8) Z Z (by decide +kernel) (by decide +kernel) (by decide +kernel) (λ _ _ _ h=>h) (y.kD (sb:=0) (.head _)) (pC Z FV (y.st.has 40 _ Z) (λ _ h=>h)) λ _ y=>?_;refine y.AK (i:=4) (sb:=1) Z Z (y.kD (sb:=0) (.head _)) Z Z Z Z λ _ y=>?_;refine y.tM 9 1 (y.kD (sb:=0) (.head _)) λ _ y=>?_;refine y.tM 13 2 (y.kD (sb:=0) (.head _)) λ _ y=>?_;refine y.tZ (s:=41) (sb:=0) 0 1 (Pb.eD fa.f2) (.head _) Z (zR Z Z) Z Z (by simp) (by simp) (by decide) Z (λ _ h=>h) [1,2,7,8,20,33,34,35,36,37,38,39,40,42,46] Z [] Z Z Z Z (by decide) λ _ H34 y=>?_;refine Kx h λ e6 b3 e7 b8 h=>kB h λ e8 b9 h=>y.Mi (i:=10) (s2:=41) Z Z (λ _ _ _ _ h=>h) (y.ir (sb:=0)) Z Ws Z Z (tp Z) (λ h=>a8 h Z) b3 λ _ y=>?_;refine y.tk (i:=11) Z Z (by decide +kernel) (by decide +kernel) (by decide +kernel) (λ _ _ _ h=>h) (y.ir (sb:=0)) (mo Z Qc (y.st.has 43 _ Z)) λ _ y=>?_;refine Ep (i:=12) (j:=14) (by decide +kernel) Z Z ?_ ?_
 .refine y.fL 41 1 ((PV.root.row Z (λ h=>a8 h Z) b3).eD fD.f5) [0] λ e9 f9 _ d5 y=>?_
  refine y.zh 1 [(0,0),(41,1)] (λ y=>?_) (hs:=sc Z (fS (sb:=41) (.head _) Z Z Z T Z)<|.nil);refine fC (y.ir (sb:=0)) ?_;refine fp 14 ?_;refine y.zh 1 [(0,0),(41,1)] λ y=>?_;refine fC (y.ir (sb:=0)) ?_;refine y.Eb (i:=15) (parts:=[(0,.tmp 46),(1,.tmp 47)]) (ns:=[1,2]) (zs:=An) Z Z (y.ir (sb:=0)) Z Z FB FC (λ w a hl=>FA ⟨by decide,ey.len (α:=Str) (eC.cells (tp Z) hl)⟩ (FA ⟨by decide,ey.len (α:=fu) (eC.cells (tp Z) hl)⟩ FN)) (λ w a hl=>fI.parts (x:=(⟨x2,x3⟩:fI)) (eC.cells (tp Z) hl) (eC.cells (tp Z) hl)) (λ _ y=>?_);refine fp 16 ?_;refine y.zh 1 [(0,0),(41,1)] λ y=>?_;refine fC (y.ir (sb:=0)) ?_;refine fp 17 ?_;refine y.iN (s:=45) (sb:=41) 1 2 ((PV.root.row Z (λ h=>a8 h Z) b3).eD fD.f5) (.head _) (zR Z Z) [36,37,49] [0] λ y=>?_;refine y.kx (s:=45) 2 (by first | (simp;done) | exact oD rfl) [0,41] λ g0 y=>?_;refine y.ic 2 yW b8 [36,37] [0,41] λ g3 y=>?_;refine fC (y.ir (sb:=0)) ?_;refine fp 18 ?_;refine y.zh 1 [(0,0),(41,1),(50,2)] (λ y=>?_) (hs:=sc Z (gJ (g:=b7) Z Ws T T Z (λ h=>a8 h Z) b9)<|.nil);refine fC (y.ir (sb:=0)) ?_;refine fp 19 ?_;refine y.zh 1 [(0,0),(41,1),(50,2)] λ y=>?_;refine fC (y.ir (sb:=0)) ?_;refine fp 20 ?_;have y:=y.iO (s:=50) 2 [0,41];refine y.kg 41 50 1 2 (tp Z) [] [0] λ y=>?_;refine fC (y.ir (sb:=0)) ?_;refine kG ?_;refine y.pb (s:=41) (sb:=0) 0 1 Z (by simp) (by simp) (by decide) Z Z (λ _ h=>h) (λ _ h=>h) [] Z [] Z Z Z λ _ y=>?_;exact(y.iD (s:=0) 0 (iy h)).2
 .refine y.zh 1 [(0,0),(41,1)] λ y=>?_
  refine fC (y.ir (sb:=0)) ?_;refine y.Eb (i:=15) (parts:=[(0,.tmp 46),(1,.tmp 47)]) (ns:=[1,2]) (zs:=An) Z Z (y.ir (sb:=0)) Z Z FB FC (λ w a hl=>FA ⟨by decide,ey.len (α:=Str) (eC.cells (tp Z) hl)⟩ (FA ⟨by decide,ey.len (α:=fu) (eC.cells (tp Z) hl)⟩ FN)) (λ w a hl=>fI.parts (x:=(⟨x2,x3⟩:fI)) (eC.cells (tp Z) hl) (eC.cells (tp Z) hl)) (λ _ y=>?_);refine iU 12 16 ?_ ?_
  .refine y.fL 41 1 ((PV.root.row Z (λ h=>a8 h Z) b3).eD fD.f5) [0] λ g5 g6 _ d6 y=>?_
   refine y.zh 1 [(0,0),(41,1)] (λ y=>?_) (hs:=sc Z (fS (sb:=41) (.head _) Z Z Z T Z)<|.nil);refine fC (y.ir (sb:=0)) ?_;refine fp 16 ?_;refine y.zh 1 [(0,0),(41,1)] λ y=>?_;refine fC (y.ir (sb:=0)) ?_;refine fp 17 ?_;refine y.iN (s:=45) (sb:=41) 1 2 ((PV.root.row Z (λ h=>a8 h Z) b3).eD fD.f5) (.head _) (zR Z Z) [36,37,49] [0] λ y=>?_;refine y.kx (s:=45) 2 (by first | (simp;done) | exact oD rfl) [0,41] λ g7 y=>?_;refine y.ic 2 yW b8 [36,37] [0,41] λ g8 y=>?_;refine fC (y.ir (sb:=0)) ?_;refine fp 18 ?_;refine y.zh 1 [(0,0),(41,1),(50,2)] (λ y=>?_) (hs:=sc Z (gJ (g:=b7) Z Ws T T Z (λ h=>a8 h Z) b9)<|.nil);refine fC (y.ir (sb:=0)) ?_;refine fp 19 ?_;refine y.zh 1 [(0,0),(41,1),(50,2)] λ y=>?_;refine fC (y.ir (sb:=0)) ?_;refine fp 20 ?_;have y:=y.iO (s:=50) 2 [0,41];refine y.kg 41 50 1 2 (tp Z) [] [0] λ y=>?_;refine fC (y.ir (sb:=0)) ?_;refine kG ?_;refine y.pb (s:=41) (sb:=0) 0 1 Z (by simp) (by simp) (by decide) Z Z (λ _ h=>h) (λ _ h=>h) [] Z [] Z Z Z λ _ y=>?_;exact(y.iD (s:=0) 0 (iy h)).2
  .refine y.zh 1 [(0,0),(41,1)] λ y=>?_
   refine fC (y.ir (sb:=0)) ?_;refine fp 12 ?_;refine y.fL 41 1 ((PV.root.row Z (λ h=>a8 h Z) b3).eD fD.f5) [0] λ g9 h0 _ d7 y=>?_;refine y.zh 1 [(0,0),(41,1)] (λ y=>?_) (hs:=sc Z (fS (sb:=41) (.head _) Z Z Z T Z)<|.nil);refine fC (y.ir (sb:=0)) ?_;refine fp 17 ?_;refine y.iN (s:=45) (sb:=41) 1 2 ((PV.root.row Z (λ h=>a8 h Z) b3).eD fD.f5) (.head _) (zR Z Z) [36,37,49] [0] λ y=>?_;refine y.kx (s:=45) 2 (by first | (simp;done) | exact oD rfl) [0,41] λ h1 y=>?_;refine y.ic 2 yW b8 [36,37] [0,41] λ h2 y=>?_;refine fC (y.ir (sb:=0)) ?_;refine fp 18 ?_;refine y.zh 1 [(0,0),(41,1),(50,2)] (λ y=>?_) (hs:=sc Z (gJ (g:=b7) Z Ws T T Z (λ h=>a8 h Z) b9)<|.nil);refine fC (y.ir (sb:=0)) ?_;refine fp 19 ?_;refine y.zh 1 [(0,0),(41,1),(50,2)] λ y=>?_;refine fC (y.ir (sb:=0)) ?_;refine fp 20 ?_;have y:=y.iO (s:=50) 2 [0,41];refine y.kg 41 50 1 2 (tp Z) [] [0] λ y=>?_;refine fC (y.ir (sb:=0)) ?_;refine kG ?_;refine y.pb (s:=41) (sb:=0) 0 1 Z (by simp) (by simp) (by decide) Z Z (λ _ h=>h) (λ _ h=>h) [] Z [] Z Z Z λ _ y=>?_;exact(y.iD (s:=0) 0 (iy h)).2
def Yf(x0:eZ):Option Str:=
 ite (ez .eql x0.kind 1) ((wd x0.name).bind λ v5=>
 some v5)<|some x0.name
instance HE:gC prog 208 dt dt Yf:=⟨@λ x0 r h=>by
 refine fe 0 func208 λ M _ _ j=>?_;refine j.z1 λ j=>?_;refine j.zc h (λ j h=>?_) λ j h=>?_
 .have⟨v5,p5,h⟩:=bs h
  exact j.ze h
 exact j.ze h⟩
def WN(x0:fu):Option Int:=
 ite (ez .eql x0.kind 1) (some (-1))<|some x0.num
instance IZ:gC prog 187 dt dt WN:=⟨@λ x0 r h=>by
 refine fe 0 func187 λ M _ _ j=>?_;refine j.z1 λ j=>?_;refine j.zc h (λ j h=>?_) λ j h=>?_
 .exact j.ze h
 exact j.ze h⟩
def jM(x1:Int)(s4:Str×Int):Option ((Str×Int)⊕(Str⊕(Str×Bool))):=
 ite (ez .lss s4.2 x1) (ite ((decide (s4.1=⟨[]⟩))=true) (some (.inr (.inr (⟨[]⟩,false))))<|(wd s4.1).bind λ a8=>
(i64 (s4.2+1)).bind λ a9=>
 some (.inl (a8,a9)))<|some (.inr (.inl s4.1))
def JO(x0:Str)(x1:Int):Option (Str×Bool):=
 Option.bind (zE (λ s4=>jM x1 s4) (x0,1)) (Sum.elim (λ b2=>
 some (b2,decide (b2≠⟨[]⟩))) some)
instance:fY prog 225 dt dt (λ r=>fZ [dt r.1,dt r.2]) JO:=⟨@λ x0 x1 r h=>by
 refine fe 0 func225 λ M w0 _ j=>?_;refine j.z1 (λ j=>za ?_);refine j.jb [] (λ b2=>[(0,dt b2)]) h (λ o2 p2 k2=>?_) λ b2 _ _ j h=>?_
 .refine j.z1 λ j=>?_
  refine gk p2 (λ s4 a w=>Sx (eG.of w0) 19 M M [] [(0,dt s4.1),(1,dt x1),(6,dt s4.2)] [] a w) (j.kv [0,1,6]) ?_;rintro s4 z4 _ _ j h hx4;refine j.zc h (λ j h=>?_) λ j h=>?_
  .refine j.zc h (λ j h=>?_) λ j h=>?_
   .refine j.z1 λ j=>?_
    have h:=lo h hx4;cases jo h k2;exact j.D1 Z (j.frozen (t:=4)) (j.frozen (t:=5)) ⟨Z,Z⟩ Z
   refine kB h λ a8 a9 h=>j.z1 λ j=>?_;exact kB h λ b3 b5 h=>j.zn [] h
  exact fU (lo h hx4)
 refine j.z1 λ j=>?_;cases h;exact j.D1 Z (j.frozen (t:=4)) (j.frozen (t:=5)) ⟨Z,Z⟩ Z⟩
def Xm(x0:Str)(x1:Int)(x2:Str):Option Str:=
 ite (ez .eql x1 0) (some x2)<|(JO x0 x1).bind λ v6=>
 ite ((!v6.2)=true) (some ⟨[]⟩)<|ite ((decide (x2=⟨[]⟩))=true) (some v6.1)<|(wi v6.1 x2).bind λ a8=>
 some a8
instance HT:ky prog 207 dt dt dt dt Xm:=⟨@λ x0 x1 x2 r h=>by
 refine fe 0 func207 λ M _ _ j=>?_;refine j.z1 λ j=>?_;refine j.zc h (λ j h=>?_) λ j h=>?_
 .exact j.ze h
 refine kB h λ v6 p6 h=>j.z1 λ j=>?_;refine j.zc h (λ j h=>?_) λ j h=>?_
 .exact j.ze h
 refine j.zc h (λ j h=>?_) λ j h=>?_
 .exact j.ze h
 exact kB h λ a8 a9 h=>j.ze h⟩
def Jz(x0:fj)(x1:eK)(x2:Int)(x3:Str):Option (fj×(List Str)):=
(Zo x0.dirs x2 x3).bind λ v8=>
(Xk x1 x2 x3).bind λ a9=>
(gO (ez .geq v8 0 == true) (eN x0.dirs v8)).bind λ b6=>
 ite ((ez .geq v8 0&&ez .eql b6.stamp a9)=true) ((i64 (x0.hits+1)).bind λ b5=>
(eN x0.dirs v8).bind λ b7=>
 some ({ x0 with hits:=(if b5<1000 then b5 else(1000:Int)) },b7.names))<|(i64 (x0.fills+1)).bind λ a8=>
(WL x1.tree x2 x3).bind λ b3=>
 Option.bind (ite (ez .geq v8 0) ((eN x0.dirs v8).bind λ c8=>
 some ({ x0 with dirs:=(x0.dirs.set v8.toNat ⟨x2,x3,a9,b3⟩),fills:=(if a8<1000 then a8 else(1000:Int)) }))<|ite ((ez .lss x0.dirs.length 20)=true) ((fE 56 x0.dirs [(⟨x2,x3,a9,b3⟩:eT)]).bind λ b8=>
 some ({ x0 with dirs:=b8,fills:=(if a8<1000 then a8 else(1000:Int)) }))<|some ({ x0 with fills:=(if a8<1000 then a8 else(1000:Int)) })) λ b9=>
 some (b9,(⟨x2,x3,a9,b3⟩:eT).names)
theorem IC{x0 x1 x2 r}(h:Jz x0 x1 x2 x3=some r):pd prog 205 ij x0 [dt x1,dt x2,dt x3] (.lx ij r.1 (dt r.2)):=by
 refine sG (fn:=f205) 0 7 func205 Z Z (λ M G w0 _ j=>gj ?_);refine Ka<|j.nT 1 0 [1,2,3] [] λ b1 _ M1 _ _ j=>?_;have j:=j.gn;refine j.zh 1 [(4,1)] λ j=>?_;refine j.gZ (ow:=ij) 5 (gr.z Ow.gB) [2,3,5] [4] λ b4 _ _ _ j=>?_;have j:=j.gn;refine j.zh 1 [(4,1),(8,5)] (λ j=>?_) (hs:=sc Z (oA Z (wg (α:=Str)))<|.nil);refine Kb<|kB h λ v8 p8 h=>j.fL 4 1 (Pb.eD gr.f0) [8] λ g7 A7 _ hA7 j=>?_;refine j.zo [(4,1),(8,5)] (λ j=>?_) (hs:=sc Z (eV Z QJ U)<|sc Z (fS (sb:=4) (.head _) Z Z Z T Z)<|sZ 2 (r:=by exact sc Z (yC (l:=[.tmp 14,.tmp 15,.tmp 16]) j.ob.sub Z (.cons (mw (sb:=4) j.ob 1 (Pb.eD gr.f0) (.head _) Z (zR Z Z) T Z) (.cons (yG j.ob.sub T) (.cons (yG j.ob.sub T) .nil))) (Qd.1 p8) xQ)<|eI));have j:=j.gS (s:=4) 1 [8];refine kB h λ c8 e8 h=>j.zo [(4,1),(8,5)] λ j=>?_;refine kB h λ e9 b5 h=>j.oZ (s:=4) 1 (ez .geq v8 (0:Int) == true) (λ hg=>(Pb.eD gr.f0)) [8] λ d1 f9 _ a8 j=>?_;refine j.zo [(4,1),(8,5)] (λ j=>?_) (hs:=sZ 3 (r:=by exact sg Z Z (λ hg=>eV Z QJ U)<|sg Z Z (λ hg=>fS (sb:=4) (.head _) hg Z Z V Z)<|sZ 1 (r:=by exact sg Z Z (λ hg=>gJ (g:=d1) Z oq V V Z (λ h=>a8 h hg) (gh hg b5))<|sZ 1 (r:=by exact sg Z Z (λ hg=>gi (sb:=4) (((Pb.eD gr.f0).row (.head _) hg (λ h=>a8 h hg) (gh hg b5)).eD eT.z2) Z V Z)<|eI))));have j:=j.gS (s:=4) 1 [8];refine j.cq h (λ h=>?_) λ h=>?_
 .refine Ka ?_
  refine kB h λ b6 g0 h=>j.zh 5 [(4,1),(8,5)] (λ j=>?_) (hs:=sc Z (eV Z uW U)<|sc Z (gi (sb:=4) (Pb.eD gr.f2) Z T Z)<|sZ 1 (r:=by exact sc Z (oF Z cI T)<|sc Z (eV Z uW U)<|.nil));refine j.gX 4 1 (Pb.eD gr.f2) (tp Z) (tp Z) [10] [8] (λ j=>Kb ?_);refine kB h λ g3 b7 h=>j.mF (s:=4) 1 true (λ _=>Pb) [8] λ cs26 hS26 j=>?_;refine j.fL 4 1 (Pb.eD gr.f0) [8] λ d2 g4 _ a9 j=>?_;refine j.tW (D:=[_,_,_,_,_,_,_,nA]) (sb:=8) (s4:=4) 5 1 zP 8 7 [[(4,nS)],[(4,nS)],[(40,1),(4,nS)],[(10,nS)],[(41,2),(42,3)],[(43,4)],[(44,5),(4,nS)],[(8,nS),(39,0)],[(45,6)]] (
   lc Z Z Z (nK (sb:=4) (.tail _ (.head _)) Z (hS26 Z) Z U Z)<|
   lc Z Z Z (eV Z QJ U)<|
   lc Z Z Z (fS (sb:=4) (.head _) Z Z Z T Z)<|
   lc Z Z Z (oM Z T)<|
   lc Z Z Z (gJ (g:=d2) Z oq T T Z (λ h=>a9 h Z) b7)<|
   lc Z Z Z (eV Z rJ T)<|
   lc Z Z Z (gi (sb:=4) (((((PV.root (x:=(⟨{ x0 with hits:=(if b6<(1000:Int) then b6 else(1000:Int)) }⟩:Bx fj))).box Z).eD gr.f0).row (.head _) Z (λ h=>a9 h Z) b7).eD eT.z3) Z T Z)<|
   ll Z<|.nil) ⟨.inl Z,⟨.inl Z,⟨.inl Z,⟨.inl Z,⟨.inl Z,⟨.inl Z,⟨.inl Z,⟨.inl Z,trivial⟩⟩⟩⟩⟩⟩⟩⟩ (zt Z) (tp Z) (hS26 Z) (.tail _ (.head _)) [45] [] (λ _ _ _ j=>?_)
  have j:=j.gn;refine j.zh 1 [(8,5)] (λ j=>Kb ?_);exact j.D4 5 Z pq Z Z h
 refine Ka<|kB h λ b8 g5 h=>j.zh 5 [(4,1),(8,5)] (λ j=>?_) (hs:=sc Z (eV Z uV U)<|sc Z (gi (sb:=4) (Pb.eD gr.f1) Z T Z)<|sZ 1 (r:=by exact sc Z (oF Z cI T)<|sc Z (eV Z uV U)<|.nil));refine j.gX 4 1 (Pb.eD gr.f1) (tp Z) (tp Z) [2,3,5,10,11] [8] (λ j=>Kb ?_);refine Ka<|kB h λ d3 d4 h=>j.zh 9 [(4,1),(8,5)] (λ j=>?_) (hs:=sZ 7 (r:=by exact sc Z (zy (l:=[.tmp 55,.tmp 56,.tmp 57]) Z (.cons T (.cons T (.cons T .nil))) ((U' d4)).fn)<|sc Z (Ir Z T T T T)<|.nil));refine j.fB 6 Ap [10,59] [4,8] λ d5 j=>?_;have j:=j.gn;refine j.eW 12 6 eO.id (tp Z) [10] [4,8] (λ j=>Kb ?_);refine za ?_;have⟨d6,d7,e0⟩:=bs h;refine ib (λ a w=>∃ M1 Q R W X Y A B,Sx (eG.ft w0 G) 80 M M1 [Q,R,W,X,Y,A,eA B] [] [(12,6,eY B 0 (⟨x2,x3,c8,d3⟩:eT)),(4,1,eH gN R ⟨d6⟩),(8,5,eH gN A ⟨xb⟩)] a w) ?_ ?_
 .refine j.zd [(4,1),(8,5),(12,6)] d7 (λ j h=>?_) λ j h=>?_
  .refine Ka ?_
   refine kB h λ g6 b9 h=>j.fL 4 1 (Pb.eD gr.f0) [8,12] λ e3 g8 _ b3 j=>?_;refine j.zh 5 [(4,1),(8,5),(12,6)] (λ j=>?_) (hs:=sc Z (eV Z QJ U)<|sc Z (fS (sb:=4) (.head _) Z Z Z T Z)<|sZ 2 (r:=by exact sc Z (gJ (g:=e3) Z oq T T Z (λ h=>b3 h Z) b9)<|.nil));refine j.gX 4 1 ((((PV.root (x:=(⟨{ x0 with fills:=(if b8<(1000:Int) then b8 else(1000:Int)) }⟩:Bx fj))).box Z).eD gr.f0).row (.head _) Z (λ h=>b3 h Z) b9) (tp Z) (tp Z) [] [8,12] (λ j=>Kb ?_);have j:=j.fv (s:=4) 1 [8,12];have j:=j.fv (s:=8) 5 [4,12];cases h;exact fz
  refine j.fL 4 1 (Pb.eD gr.f0) [8,12] λ g9 h0 _ e4 j=>?_;refine j.zo [(4,1),(8,5),(12,6)] (λ j=>?_) (hs:=sc Z (eV Z QJ U)<|sc Z (fS (sb:=4) (.head _) Z Z Z T Z)<|sc Z (oE Z T)<|eI);have j:=j.gS (s:=4) 1 [8,12];refine j.cq h (λ h=>?_) λ h=>?_
  .refine Ka ?_
   refine j.fL 4 1 (Pb.eD gr.f0) [8,12] λ h1 h2 _ e5 j=>?_;refine j.zh 4 [(4,1),(8,5),(12,6)] (λ j=>?_) (hs:=sc Z (eV Z QJ U)<|sc Z (fS (sb:=4) (.head _) Z Z Z T Z)<|eI);refine j.iN (s:=72) (sb:=4) 1 3 (Pb.eD gr.f0) (.head _) (zR Z Z) [74] [8,12] @λ e6 H64 j=>?_;have j:=j.gs (Gs':=[eA none,e6,eA none,H64,eA none,(eA (some b4)),eA (some d5)]);refine j.kx (s:=72) 3 (by first | (simp;done) | exact oD rfl) [4,8,12] λ h3 j=>?_;refine kB h λ h4 e7 h=>j.ic 3 yW e7 [] [4,8,12] λ h5 j=>?_;have j:=j.gn;refine j.zh 1 [(4,1),(8,5),(12,6),(75,3)] (λ j=>?_) (hs:=sc Z (eV Z QJ (oN Z))<|.nil);have j:=j.iO (s:=75) 3 [4,8,12];refine j.kg 4 75 1 3 (tp Z) [] [8,12] λ j=>?_;have j:=j.gn;refine Kb ?_;have j:=j.fv (s:=4) 1 [8,12];have j:=j.fv (s:=8) 5 [4,12];cases h;exact fz
  have j:=j.fv (s:=4) 1 [8,12];have j:=j.fv (s:=8) 5 [4,12];cases h;exact fz
 rintro _ _ ⟨_,Q,R,W,X,Y,A,B,j⟩;have h:=e0;refine j.ie (s:=8) 5 [4,12] λ h6 j=>?_;refine j.ie (s:=4) 1 [8,12] λ h7 j=>?_;refine j.mF (s:=4) 1 true (λ _=>Pb) [8,12] λ cs84 hS84 j=>?_;refine j.tW (D:=[_,_,_,nA]) (sb:=8) (s4:=4) 5 1 zP 4 3 [[(4,nS)],[(12,nS)],[(78,1)],[(8,nS),(77,0)],[(79,2)]] (
  lc Z Z Z (nK (sb:=4) (.head _) Z (hS84 Z) Z U Z)<|
  lc Z Z Z (jH eT.iM Z (ht:=rJ) T)<|
  lc Z Z Z (yV Z T)<|
  ll Z<|.nil) ⟨.inl Z,⟨.inr ⟨6,by decide,λ _ h=>h⟩,⟨.inl Z,⟨.inl Z,trivial⟩⟩⟩⟩ (zt Z) (tp Z) (hS84 Z) (.head _) [79] [] (λ _ _ _ j=>?_)
 have j:=j.gn;refine j.zh 1 [(8,5)] (λ j=>Kb ?_);exact j.D4 5 Z pq Z Z h
def jv(x1:eK)(x2:List Int)(x3:Str)(x4:Str)(a8:fj×fj×Spec×(List Int)×Int):Option ((fj×fj×Spec×(List Int)×Int)⊕((fj×fj×Spec×(List Int))⊕(fj×Spec))):=
 ite ((ez .lss a8.2.2.2.2 x2.length)=true) (Option.bind ((eN x2 a8.2.2.2.2).bind λ e4=>
(Jz a8.1 x1 e4 x3).bind λ b3=>
(kT x4 ⟨[47]⟩).bind λ b8=>
(ZY b3.2 b8).bind λ a9=>
(eN x2 a8.2.2.2.2).bind λ b9=>
(wi x3 x4).bind λ c8=>
(YP x1.tree ⟨b9,c8,⟨[]⟩,true,0,[]⟩).bind λ b5=>
 ite ((a9&&ez .geq b5 0)=true) ((eN x2 a8.2.2.2.2).bind λ d1=>
 some (.inr (.inr (.inr (b3.1,(⟨2,b5,[d1]⟩:Spec))))))<|(eN x2 a8.2.2.2.2).bind λ d2=>
(YP x1.tree ⟨d2,x3,x4,false,0,[]⟩).bind λ b6=>
(ZY b3.2 x4).bind λ d3=>
 ite ((d3&&ez .geq b6 0)=true) (some (.inr (.inr (.inr (b3.1,(⟨1,b6,[]⟩:Spec))))))<|(gO (a9 == true) (eN x2 a8.2.2.2.2)).bind λ d4=>
(gO (a9 == true) (wi x3 x4)).bind λ d5=>
(gO (a9 == true) (XS x1.tree d4 d5)).bind λ d6=>
 ite ((a9&&d6)=true) ((eN x2 a8.2.2.2.2).bind λ d7=>
(fE 8 a8.2.2.2.1 [d7]).bind λ e0=>
 some (.inl (b3.1,a8.2.1,a8.2.2.1,e0)))<|some (.inl (b3.1,a8.2.1,a8.2.2.1,a8.2.2.2.1))) (Sum.elim (λ b7=>
(i64 (a8.2.2.2.2+1)).bind λ e3=>
 some (.inl (b7.1,b7.2.1,b7.2.2.1,b7.2.2.2,e3))) some))<|some (.inr (.inl (a8.1,a8.2.1,a8.2.2.1,a8.2.2.2.1)))
def JA(x0:fj)(x1:eK)(x2:List Int)(x3:Str)(x4:Str):Option (fj×Spec):=
 Option.bind (zE (λ b3=>jv x1 x2 x3 x4 b3) (x0,xb,Wo,[],0)) (Sum.elim (λ a8=>
 ite ((ez .gtr a8.2.2.2.length 0)=true) (some (a8.1,⟨(3:Int),(-1:Int),a8.2.2.2⟩))<|(Ju).bind λ a9=>
 some (a8.1,a9)) some)
theorem SP{x0 x1 x2 r}(h:JA x0 x1 x2 x3 x4=some r):pd prog 184 ij x0 [dt x1,dt x2,dt x3,dt x4] (.lx ij r.1 (dt r.2)):=by
 refine sG (fn:=f184) 0 13 func184 Z Z (λ M G w0 _ y=>gj ?_);refine Ka<|y.nT 1 0 [1,2,3,4] [] λ b1 _ M1 _ _ y=>?_;have y:=y.gn;refine y.zh 1 [(5,1)] λ y=>?_;refine y.gZ (ow:=ij) 10 (gr.z Ow.gB) [2,3,4,6] [5] λ b4 _ _ _ y=>?_;have y:=y.gn;refine y.fB 11 nd [2,3,4,6] [5,10] λ b7 y=>?_;have y:=y.gn;refine Kb<|y.zo [(5,1),(10,10),(11,11),(12,8)] (λ y=>?_) (hs:=sc Z (xj (α:=Int) (e:=3) Z)<|eI);refine za ?_;have⟨e7,e8,b9⟩:=bs h;refine ib (λ a w=>∃ b6,e7=.inl b6/\(∃ M1 Q R W X Y A B C E F H I J,Sx (eG.ft w0 G) 115 M M1 [Q,R,W,X,Y,A,B,C,eA E,F,H,eA I,J] [] [(11,11,eY I 0 b6.2.2.1),(12,8,eQ E 3 b6.2.2.2),(5,1,eH gN R ⟨b6.1⟩),(10,10,eH gN H ⟨b6.2.1⟩)] a w)) ?_ ?_
 .refine y.zo [(5,1),(10,10),(11,11),(12,8)] λ y=>?_
  have y:=y.fv (s:=5) 1 [10,11,12];have y:=y.fv (s:=10) 10 [5,11,12];refine gk e8 (λ a8 a w=>∃ M1 Q R W X Y A B C E F H I J,Sx (eG.ft w0 G) 115 M M1 [Q,R,W,X,Y,A,B,C,eA E,F,H,eA I,J] [(2,dt x2),(3,dt x3),(4,dt x4),(6,eX x1),(13,dt a8.2.2.2.2)] [(11,11,eY I 0 a8.2.2.1),(12,8,eQ E 3 a8.2.2.2.1),(5,1,eH gN R ⟨a8.1⟩),(10,10,eH gN H ⟨a8.2.1⟩)] a w) fx ?_;rintro a8 e9 _ _ ⟨_,Q,R,W,X,Y,A,B,C,E,F,H,I,J,y⟩ h b5;refine y.zd [(5,1),(10,10),(11,11),(12,8)] h (λ y h=>?_) λ y h=>?_
  .refine kQ ?_
   refine za ?_;have⟨f9,g0,d1⟩:=bs h;refine ib (λ a w=>∃ b8,f9=.inl b8/\(∃ M1 Q R W X Y A B C E F H I J,Sx (eG.ft w0 G) 115 M M1 [Q,R,W,X,Y,A,B,C,eA E,F,H,eA I,J] [(2,dt x2),(3,dt x3),(4,dt x4),(6,eX x1),(13,dt a8.2.2.2.2)] [(11,11,eY I 0 b8.2.2.1),(12,8,eQ E 3 b8.2.2.2),(5,1,eH gN R ⟨b8.1⟩),(10,10,eH gN H ⟨b8.2.1⟩)] a w)) ?_ ?_
   .refine y.rX zP λ b3 _ hz20 y=>?_
    refine y.me (i:=1) (y.fg (g:=115)) hz20 (tp Z) λ y=>?_;refine y.tM 2 2 (y.fg (g:=115)) λ _ y=>?_;refine y.tM 3 13 (y.fg (g:=115)) λ _ y=>?_;have⟨d2,g3,h⟩:=bs g0;refine y.Ed (i:=4) Z Z (y.fg (g:=115)) Z uX (tp Z) (tp Z) g3 (next:=@λ a25 y=>?_);refine y.me (i:=5) (y.fg (g:=115)) hz20 (tp Z) λ y=>?_;refine y.tM 6 3 (y.fg (g:=115)) λ _ y=>?_;refine kB h λ a9 e6 h=>yP 1 8191 (λ a w=>∃ M1 Q R X Y A B C E F H I J,Sx (eG.ft w0 G) 115 M M1 [Q,R,eA none,X,Y,A,B,C,eA E,F,H,eA I,J] [(2,dt x2),(3,dt x3),(4,dt x4),(6,eX x1),(13,dt a8.2.2.2.2),(36,dt a9.2),(115,gx b3)] [(11,11,eY I 0 a8.2.2.1),(12,8,eQ E 3 a8.2.2.2.1),(10,10,eH gN H ⟨a8.2.1⟩),(14,12,eH gN J ⟨a9.1⟩),(5,1,la R 3)] a w) ?_ λ n108=>?_
    .rintro _ _ ⟨_,Q,R,X,Y,A,B,C,E,F,H,I,J,y⟩
     refine fp 13 ?_;refine y.zh 1 [(5,1),(10,10),(11,11),(12,8),(14,12)] λ y=>?_;refine fC (y.fg (g:=115)) ?_;refine kG ?_;refine Ka<|y.ie (s:=14) 12 [5,10,11,12] λ g4 y=>?_;refine y.nr (sb:=14) 12 [2,3,4,6,13,15] [5,10,11,12] λ y=>?_;refine y.D' (sb:=5) (tv:=37) 1 12 Z Z Z pq Z Z Z [2,3,4,6,13,15] Z [10,11,12] Z Z Z λ _ _ y=>?_;have y:=y.gn;refine Kb<|Kx h λ g5 g6 g7 g8 h=>y.zo [(5,1),(10,10),(11,11),(12,8)] λ y=>?_;refine Kx h λ g9 h0 h1 d3 h=>kB h λ h2 d4 h=>y.zv [(5,1),(10,10),(11,11),(12,8)] (λ y=>?_) (hs:=sV 8 (r:=by exact sw Z (zy (l:=[.tmp 48,.tmp 49]) Z (.cons T (.cons T .nil)) (WD d3))<|sw Z (Kk Z T T cB)<|sw Z (zy (l:=[.tmp 43,.tmp 51]) Z (.cons T (.cons T .nil)) (CE d4))<|sw Z (oA Z T)<|.nil));refine y.zd [(5,1),(10,10),(11,11),(12,8)] h (λ y h=>?_) λ y h=>?_
     .refine y.ie (s:=10) 10 [5,11,12] λ h3 y=>?_
      refine y.ie (s:=5) 1 [10,11,12] λ h4 y=>?_;refine kB h λ h5 d5 h=>y.mF (s:=5) 1 true (λ _=>Pb) [10,11,12] λ cs133 hS133 y=>?_;refine y.tW (D:=[_,_,_,_,_,_,_,_,nA]) (sb:=10) (s4:=5) 10 1 zP 9 8 [[(5,nS)],[(17,nS)],[(2,nS)],[(13,nS)],[(60,2),(61,3)],[(62,4)],[(63,5)],[(59,1),(64,6)],[(10,nS),(58,0)],[(11,nS),(65,7)]] (
       lc Z Z Z (nK (sb:=5) (.head _) Z (hS133 Z) Z U Z)<|
        lc Z Z Z (oM Z T)<|
        lc Z Z Z (oM Z T)<|
        lc Z Z Z (oM Z T)<|
        lc Z Z Z (xIdx Z T T d5)<|
        lc Z Z Z (zG Z T)<|
        lc Z Z Z (wa (opds:=[.tmp 63]) Z Z Z (.cons T .nil))<|
        lc Z Z Z (Wp Z cI T T)<|
        ll Z<|.nil) ⟨.inl Z,⟨.inl Z,⟨.inl Z,⟨.inl Z,⟨.inl Z,⟨.inl Z,⟨.inl Z,⟨.inl Z,⟨.inl Z,trivial⟩⟩⟩⟩⟩⟩⟩⟩⟩ (zt Z) (tp Z) (hS133 Z) (.head _) [65] [11] (λ _ _ _ y=>?_)
      have y:=y.gn;refine y.eW 11 11 eO.id (tp Z) [] [10] (λ y=>Kb ?_);exact y.uk 10 mP (jo (lo (jo h d1) b5) b9)
     refine Kx h λ h6 h7 h8 d6 h=>y.zv [(5,1),(10,10),(11,11),(12,8)] (λ y=>?_) (hs:=sV 8 (r:=by exact sw Z (Kl Z T T T)<|sw Z (zy (l:=[.tmp 67,.tmp 74]) Z (.cons T (.cons T .nil)) (CE d6))<|sw Z (oA Z T)<|.nil));refine kB h λ h9 i0 h=>y.zd [(5,1),(10,10),(11,11),(12,8)] h (λ y h=>?_) λ y h=>?_
     .refine Ka ?_
      refine y.ie (s:=5) 1 [10,11,12] λ i3 y=>?_;refine y.nr (sb:=5) 1 [18] [10,11] λ y=>?_;refine y.zh 3 [(10,10),(11,11),(83,1)] (λ y=>?_) (hs:=sZ 1 (r:=by exact sc Z (wa (opds:=[]) (α:=Int) Z Z Z .nil)<|sc Z (Wp Z cI T T)<|.nil));refine y.ie (s:=10) 10 [11,83] λ i4 y=>?_;refine y.iS (sb:=10) (tv:=83) 10 1 Pb (zt Z) [86] [11] λ y=>?_;have y:=y.gn;refine y.eW 11 11 eO.id (tp Z) [] [10] (λ y=>Kb ?_);exact y.uk 10 mP (jo (lo (jo h d1) b5) b9)
     refine Kx h λ i5 d7 i6 e0 h=>kB h λ i7 e3 h=>y.zv [(5,1),(10,10),(11,11),(12,8)] (λ y=>?_) (hs:=sV 6 (r:=by exact gW Z Z (λ hg=>xIdx Z V V (gh hg d7))<|sV 3 (r:=by exact gW Z Z (λ hg=>zy (l:=[.tmp 95,.tmp 96]) Z (.cons V (.cons V .nil)) (WD (gh hg e0)))<|gW Z Z (λ hg=>zy (l:=[.tmp 90,.tmp 94,.tmp 97]) Z (.cons V (.cons V (.cons V .nil))) (Ip (gh hg e3)))<|sw Z (xd Z T T)<|.nil)));refine y.cq h (λ h=>?_) λ h=>?_
     .refine Ka ?_
      refine kB h λ i8 i9 h=>y.zh 6 [(5,1),(10,10),(11,11),(12,8),(100,8)] λ y=>?_;refine kB h λ j1 e4 h=>y.ic 8 yW e4 [2,3,4,6,13] [5,10,11] λ j2 y=>?_;have y:=y.gn;refine y.zh 1 [(5,1),(10,10),(11,11),(12,8)] (λ y=>Kb ?_);exact fU h
     exact fU h
    refine yP 2 4095 (λ a w=>∃ M1 Q R W X Y A B C E F H I J,Sx (eG.ft w0 G) 115 M M1 [Q,R,W,X,Y,A,B,C,eA E,F,H,eA I,J] [(2,dt x2),(3,dt x3),(4,dt x4),(6,eX x1),(13,dt a8.2.2.2.2),(36,dt a9.2),(115,gx b3)] [(11,11,eY I 0 a8.2.2.1),(12,8,eQ E 3 a8.2.2.2.1),(10,10,eH gN H ⟨a8.2.1⟩),(14,12,eH gN J ⟨xb⟩),(35,2,eH ij W a9.1),(5,1,la R 3)] a w) ?_ λ n96=>?_
    .rintro _ _ ⟨_,Q,R,W,X,Y,A,B,C,E,F,H,I,J,y⟩
     refine fp 12 ?_;refine y.ie (s:=14) 12 [5,10,11,12,35] λ j3 y=>?_;refine y.iS (sb:=14) (tv:=35) 12 2 Pb (zt Z) [2,3,4,6,13,36,115] [5,10,11,12] λ y=>?_;have y:=y.gn;have y:=y.fv (s:=14) 12 [5,10,11,12];exact fQ n108 (y.fg (g:=115))
    refine yP 2 7167 (λ a w=>∃ M1 Q R X Y A B C E F H I J,Sx (eG.ft w0 G) 115 M M1 [Q,R,eA none,X,Y,A,B,C,eA E,F,H,eA I,J] [(2,dt x2),(3,dt x3),(4,dt x4),(6,eX x1),(13,dt a8.2.2.2.2),(26,mM (dt a9.2)),(115,gx b3)] [(11,11,eY I 0 a8.2.2.1),(12,8,eQ E 3 a8.2.2.2.1),(10,10,eH gN H ⟨a8.2.1⟩),(14,12,eH gN J ⟨a9.1⟩),(5,1,la R 3)] a w) ?_ λ n102=>?_
    .rintro _ _ ⟨_,Q,R,X,Y,A,B,C,E,F,H,I,J,y⟩
     refine fp 10 ?_;refine y.zh 1 [(5,1),(10,10),(11,11),(12,8),(14,12)] (λ y=>?_) (hs:=sc Z (vA Z T)<|.nil);exact fQ n108 (y.fg (g:=115))
    refine yP 3 2047 (λ a w=>∃ M1 Q R W X Y A B C E F H I J,Sx (eG.ft w0 G) 115 M M1 [Q,R,W,X,Y,A,B,C,eA E,F,H,eA I,J] [(2,dt x2),(3,dt x3),(4,dt x4),(6,eX x1),(13,dt a8.2.2.2.2),(36,dt a9.2),(115,gx b3)] [(11,11,eY I 0 a8.2.2.1),(12,8,eQ E 3 a8.2.2.2.1),(10,10,eH gN H ⟨a8.2.1⟩),(35,2,eH ij W a9.1),(5,1,la R 3)] a w) ?_ λ n81=>?_
    .rintro _ _ ⟨_,Q,R,W,X,Y,A,B,C,E,F,H,I,J,y⟩
     refine fp 11 ?_;refine y.gZ (ow:=ij) 12 (gr.z Ow.gB) [2,3,4,6,13,36,115] [5,10,11,12,35] λ j4 _ _ _ y=>?_;have y:=y.gn;have y:=y.fv (s:=14) 12 [5,10,11,12,35];exact fQ n96 (y.fg (g:=115))
    refine yP 3 3071 (λ a w=>∃ M1 Q R W X Y A B C E F H I J,Sx (eG.ft w0 G) 115 M M1 [Q,R,W,X,Y,A,B,C,eA E,F,H,eA I,J] [(2,dt x2),(3,dt x3),(4,dt x4),(6,eX x1),(13,dt a8.2.2.2.2),(26,mM (dt a9.2)),(115,gx b3)] [(11,11,eY I 0 a8.2.2.1),(12,8,eQ E 3 a8.2.2.2.1),(10,10,eH gN H ⟨a8.2.1⟩),(14,12,eH gN J ⟨xb⟩),(35,2,eH ij W a9.1),(5,1,la R 3)] a w) ?_ λ n85=>?_
    .rintro _ _ ⟨_,Q,R,W,X,Y,A,B,C,E,F,H,I,J,y⟩
     refine iU 10 12 ?_ ?_
     .refine y.zh 1 [(5,1),(10,10),(11,11),(12,8),(14,12),(35,2)] (λ y=>?_) (hs:=sc Z (vA Z T)<|.nil)
      exact fQ n96 (y.fg (g:=115))
     .refine y.ie (s:=14) 12 [5,10,11,12,35] λ j5 y=>?_
      refine y.iS (sb:=14) (tv:=35) 12 2 Pb (zt Z) [2,3,4,6,13,26,115] [5,10,11,12] λ y=>?_;have y:=y.gn;have y:=y.fv (s:=14) 12 [5,10,11,12];exact fQ n102 (y.fg (g:=115))
    refine yP 3 3583 (λ a w=>∃ M1 Q R W X Y A B C E F H I J,Sx (eG.ft w0 G) 115 M M1 [Q,R,W,X,Y,A,B,C,eA E,F,H,eA I,J] [(2,dt x2),(3,dt x3),(4,dt x4),(6,eX x1),(13,dt a8.2.2.2.2),(36,dt a9.2),(115,gx b3)] [(11,11,eY I 0 a8.2.2.1),(12,8,eQ E 3 a8.2.2.2.1),(10,10,eH gN H ⟨a8.2.1⟩),(14,12,eH gN J ⟨xb⟩),(5,1,la R 3),(26,2,kP (.lx ij a9.1 (dt a9.2)) W)] a w) ?_ λ n90=>?_
    .rintro _ _ ⟨_,Q,R,W,X,Y,A,B,C,E,F,H,I,J,y⟩
     refine fp 9 ?_;refine y.rV (s:=26) 2 [5,10,11,12,14] λ _ y=>?_;exact fQ n96 (y.fg (g:=115))
    refine yP 4 1023 (λ a w=>∃ M1 Q R W X Y A B C E F H I J,Sx (eG.ft w0 G) 115 M M1 [Q,R,W,X,Y,A,B,C,eA E,F,H,eA I,J] [(2,dt x2),(3,dt x3),(4,dt x4),(6,eX x1),(13,dt a8.2.2.2.2),(26,mM (dt a9.2)),(115,gx b3)] [(11,11,eY I 0 a8.2.2.1),(12,8,eQ E 3 a8.2.2.2.1),(10,10,eH gN H ⟨a8.2.1⟩),(35,2,eH ij W a9.1),(5,1,la R 3)] a w) ?_ λ n72=>?_
    .rintro _ _ ⟨_,Q,R,W,X,Y,A,B,C,E,F,H,I,J,y⟩
     refine iU 10 11 ?_ ?_
     .refine y.zh 1 [(5,1),(10,10),(11,11),(12,8),(35,2)] (λ y=>?_) (hs:=sc Z (vA Z T)<|.nil)
      exact fQ n81 (y.fg (g:=115))
     .refine y.gZ (ow:=ij) 12 (gr.z Ow.gB) [2,3,4,6,13,26,115] [5,10,11,12,35] λ j6 _ _ _ y=>?_
      have y:=y.gn;have y:=y.fv (s:=14) 12 [5,10,11,12,35];exact fQ n85 (y.fg (g:=115))
    refine yP 4 1535 (λ a w=>∃ M1 Q R W X Y A B C E F H I J,Sx (eG.ft w0 G) 115 M M1 [Q,R,W,X,Y,A,B,C,eA E,F,H,eA I,J] [(2,dt x2),(3,dt x3),(4,dt x4),(6,eX x1),(13,dt a8.2.2.2.2),(36,dt a9.2),(115,gx b3)] [(11,11,eY I 0 a8.2.2.1),(12,8,eQ E 3 a8.2.2.2.1),(10,10,eH gN H ⟨a8.2.1⟩),(5,1,la R 3),(26,2,kP (.lx ij a9.1 (dt a9.2)) W)] a w) ?_ λ n74=>?_
    .rintro _ _ ⟨_,Q,R,W,X,Y,A,B,C,E,F,H,I,J,y⟩
     refine iU 9 11 ?_ ?_
     .refine y.rV (s:=26) 2 [5,10,11,12] λ _ y=>?_
      exact fQ n81 (y.fg (g:=115))
     .refine y.gZ (ow:=ij) 12 (gr.z Ow.gB) [2,3,4,6,13,36,115] [5,10,11,12,26] λ j7 _ _ _ y=>?_
      have y:=y.gn;have y:=y.fv (s:=14) 12 [5,10,11,12,26];exact fQ n90 (y.fg (g:=115))
    refine yP 4 2559 (λ a w=>∃ M1 Q R W X Y A B C E F H I J,Sx (eG.ft w0 G) 115 M M1 [Q,R,W,X,Y,A,B,C,eA E,F,H,eA I,J] [(2,dt x2),(3,dt x3),(4,dt x4),(6,eX x1),(13,dt a8.2.2.2.2),(115,gx b3)] [(11,11,eY I 0 a8.2.2.1),(12,8,eQ E 3 a8.2.2.2.1),(10,10,eH gN H ⟨a8.2.1⟩),(14,12,eH gN J ⟨xb⟩),(5,1,la R 3),(26,2,kP (.lx ij a9.1 (dt a9.2)) W)] a w) ?_ λ n78=>?_
    .rintro _ _ ⟨_,Q,R,W,X,Y,A,B,C,E,F,H,I,J,y⟩
     refine iU 9 10 ?_ ?_
     .refine y.rV (s:=26) 2 [5,10,11,12,14] λ _ y=>?_
      exact fQ n85 (y.fg (g:=115))
     .refine y.zh 1 [(5,1),(10,10),(11,11),(12,8),(14,12),(26,2)] (λ y=>?_) (hs:=sc Z (Hu (s:=26) Z Z Z)<|.nil)
      exact fQ n90 (y.fg (g:=115))
    refine yP 5 511 (λ a w=>∃ M1 Q R W X Y A B C E F H I J,Sx (eG.ft w0 G) 115 M M1 [Q,R,W,X,Y,A,B,C,eA E,F,H,eA I,J] [(2,dt x2),(3,dt x3),(4,dt x4),(6,eX x1),(13,dt a8.2.2.2.2),(115,gx b3)] [(11,11,eY I 0 a8.2.2.1),(12,8,eQ E 3 a8.2.2.2.1),(10,10,eH gN H ⟨a8.2.1⟩),(5,1,la R 3),(26,2,kP (.lx ij a9.1 (dt a9.2)) W)] a w) ?_ λ n64=>?_
    .rintro _ _ ⟨_,Q,R,W,X,Y,A,B,C,E,F,H,I,J,y⟩
     refine Er (i:=9) (j:=10) (k:=11) Z Z Z ?_ ?_ ?_
     .refine y.rV (s:=26) 2 [5,10,11,12] λ _ y=>?_
      exact fQ n72 (y.fg (g:=115))
     .refine y.zh 1 [(5,1),(10,10),(11,11),(12,8),(26,2)] (λ y=>?_) (hs:=sc Z (Hu (s:=26) Z Z Z)<|.nil)
      exact fQ n74 (y.fg (g:=115))
     .refine y.gZ (ow:=ij) 12 (gr.z Ow.gB) [2,3,4,6,13,115] [5,10,11,12,26] λ k1 _ _ _ y=>?_
      have y:=y.gn;have y:=y.fv (s:=14) 12 [5,10,11,12,26];exact fQ n78 (y.fg (g:=115))
    refine yP 5 2303 (λ a w=>∃ M1 Q R W X Y A B C E F H I J,Sx (eG.ft w0 G) 115 M M1 [Q,R,W,X,Y,A,B,C,eA E,F,H,eA I,J] [(2,dt x2),(3,dt x3),(4,dt x4),(6,eX x1),(13,dt a8.2.2.2.2),(115,gx b3)] [(11,11,eY I 0 a8.2.2.1),(12,8,eQ E 3 a8.2.2.2.1),(10,10,eH gN H ⟨a8.2.1⟩),(14,12,eH gN J ⟨xb⟩),(5,1,la R 3),(34,2,kP (.lx ij a9.1 (dt a9.2)) W)] a w) ?_ λ n68=>?_
    .rintro _ _ ⟨_,Q,R,W,X,Y,A,B,C,E,F,H,I,J,y⟩
     refine fp 8 ?_;refine y.tY (s:=34) 2 [5,10,11,12,14] λ _ y=>?_;exact fQ n78 (y.fg (g:=115))
    refine yP 6 255 (λ a w=>∃ M1 Q R W X Y A B C E F H I J,Sx (eG.ft w0 G) 115 M M1 [Q,R,W,X,Y,A,B,C,eA E,F,H,eA I,J] [(2,dt x2),(3,dt x3),(4,dt x4),(6,eX x1),(13,dt a8.2.2.2.2),(115,gx b3)] [(11,11,eY I 0 a8.2.2.1),(12,8,eQ E 3 a8.2.2.2.1),(10,10,eH gN H ⟨a8.2.1⟩),(5,1,la R 3),(34,2,kP (.lx ij a9.1 (dt a9.2)) W)] a w) ?_ λ n55=>?_
    .rintro _ _ ⟨_,Q,R,W,X,Y,A,B,C,E,F,H,I,J,y⟩
     refine iU 8 11 ?_ ?_
     .refine y.tY (s:=34) 2 [5,10,11,12] λ _ y=>?_
      exact fQ n64 (y.fg (g:=115))
     .refine y.gZ (ow:=ij) 12 (gr.z Ow.gB) [2,3,4,6,13,115] [5,10,11,12,34] λ k3 _ _ _ y=>?_
      have y:=y.gn;have y:=y.fv (s:=14) 12 [5,10,11,12,34];exact fQ n68 (y.fg (g:=115))
    refine yP 6 2175 (λ a w=>∃ M1 Q R W X Y A B C E F H I J,Sx (eG.ft w0 G) 115 M M1 [Q,R,W,X,Y,A,B,C,eA E,F,H,eA I,J] [(2,dt x2),(3,dt x3),(4,dt x4),(6,eX x1),(13,dt a8.2.2.2.2),(28,dt x1),(32,dt d2),(33,dt x3),(115,gx b3)] [(11,11,eY I 0 a8.2.2.1),(12,8,eQ E 3 a8.2.2.2.1),(10,10,eH gN H ⟨a8.2.1⟩),(14,12,eH gN J ⟨xb⟩),(27,2,eH ij W a8.1),(5,1,la R 3)] a w) ?_ λ n59=>?_
    .rintro _ _ ⟨_,Q,R,W,X,Y,A,B,C,E,F,H,I,J,y⟩
     refine fp 7 ?_;refine y.cT (sb:=27) (l:=[.tmp 28,.tmp 32,.tmp 33]) 2 (.cons T (.cons T (.cons T .nil))) (IC e6) [2,3,4,6,13,115] [5,10,11,12,14] λ y=>?_;exact fQ n68 (y.gn.fg (g:=115))
    refine yP 7 127 (λ a w=>∃ M1 Q R W X Y A B C E F H I J,Sx (eG.ft w0 G) 115 M M1 [Q,R,W,X,Y,A,B,C,eA E,F,H,eA I,J] [(2,dt x2),(3,dt x3),(4,dt x4),(6,eX x1),(13,dt a8.2.2.2.2),(28,dt x1),(32,dt d2),(33,dt x3),(115,gx b3)] [(11,11,eY I 0 a8.2.2.1),(12,8,eQ E 3 a8.2.2.2.1),(10,10,eH gN H ⟨a8.2.1⟩),(27,2,eH ij W a8.1),(5,1,la R 3)] a w) ?_ λ n48=>?_
    .rintro _ _ ⟨_,Q,R,W,X,Y,A,B,C,E,F,H,I,J,y⟩
     refine iU 7 11 ?_ ?_
     .refine y.cT (sb:=27) (l:=[.tmp 28,.tmp 32,.tmp 33]) 2 (.cons T (.cons T (.cons T .nil))) (IC e6) [2,3,4,6,13,115] [5,10,11,12] λ y=>?_
      exact fQ n55 (y.gn.fg (g:=115))
     .refine y.gZ (ow:=ij) 12 (gr.z Ow.gB) [2,3,4,6,13,28,32,33,115] [5,10,11,12,27] λ k4 _ _ _ y=>?_
      have y:=y.gn;have y:=y.fv (s:=14) 12 [5,10,11,12,27];exact fQ n59 (y.fg (g:=115))
    refine yP 7 2174 (λ a w=>∃ M1 Q R W X Y A B C E F H I J,Sx (eG.ft w0 G) 115 M M1 [Q,R,W,X,Y,A,B,C,eA E,F,H,eA I,J] [(2,dt x2),(3,dt x3),(4,dt x4),(6,eX x1),(13,dt a8.2.2.2.2),(28,dt x1),(32,dt d2),(33,dt x3),(115,gx b3)] [(11,11,eY I 0 a8.2.2.1),(12,8,eQ E 3 a8.2.2.2.1),(5,1,eH gN R ⟨a8.1⟩),(10,10,eH gN H ⟨a8.2.1⟩),(14,12,eH gN J ⟨xb⟩)] a w) ?_ λ n52=>?_
    .rintro _ _ ⟨_,Q,R,W,X,Y,A,B,C,E,F,H,I,J,y⟩
     refine fp 0 ?_;refine y.ie (s:=5) 1 [10,11,12,14] λ k5 y=>?_;refine y.Ay (sb:=5) 1 2 pq [2,3,4,6,13,28,32,33,115] [10,11,12,14] λ _ H224 _ _ y=>?_;exact fQ n59 (y.gn.fg (g:=115))
    refine iU 0 11 ?_ ?_
    .refine y.ie (s:=5) 1 [10,11,12] λ k6 y=>?_
     refine y.Ay (sb:=5) 1 2 pq [2,3,4,6,13,28,32,33,115] [10,11,12] λ _ H227 _ _ y=>?_;exact fQ n48 (y.gn.fg (g:=115))
    .refine y.gZ (ow:=ij) 12 (gr.z Ow.gB) [2,3,4,6,13,28,32,33,115] [5,10,11,12] λ k7 _ _ _ y=>?_
     have y:=y.gn;have y:=y.fv (s:=14) 12 [5,10,11,12];exact fQ n52 (y.fg (g:=115))
   rintro _ _ ⟨b8,rfl,⟨_,Q,R,W,X,Y,A,B,C,E,F,H,I,J,y⟩⟩;have h:=jn d1;exact kB h λ k8 k9 h=>y.zn [(5,1),(10,10),(11,11),(12,8)] h
  exact fU (lo h b5)
 rintro _ _ ⟨b6,rfl,⟨_,Q,R,W,X,Y,A,B,C,E,F,H,I,J,y⟩⟩;have h:=jn b9;refine y.zd [(5,1),(10,10),(11,11),(12,8)] h (λ y h=>?_) (λ y h=>?_) (hs:=sZ 1 (r:=by exact sc Z (rH Z T)<|eI))
 .have y:=y.eE 8 (s:=12) Z Z [109] Z [5,10,11] Z
  refine Ka<|y.ie (s:=5) 1 [10,11] λ l3 y=>?_;refine y.nr (sb:=5) 1 [12] [10,11] λ y=>?_;refine y.zh 2 [(10,10),(11,11),(110,1)] (λ y=>?_) (hs:=sZ 1 (r:=by exact sc Z (Wp Z cI cI T)<|.nil));refine y.ie (s:=10) 10 [11,110] λ l4 y=>?_;refine y.iS (sb:=10) (tv:=110) 10 1 Pb (zt Z) [112] [11] λ y=>?_;have y:=y.gn;refine y.eW 11 11 eO.id (tp Z) [] [10] (λ y=>Kb ?_);exact y.uk 10 mP h
 refine y.ie (s:=10) 10 [5,11,12] λ l5 y=>?_;refine y.ie (s:=5) 1 [10,11,12] λ l6 y=>?_;refine kB h λ l7 e5 h=>y.mF (s:=5) 1 true (λ _=>Pb) [10,11,12] λ cs252 hS252 y=>?_;refine y.tW (D:=[_,_,nA]) (sb:=10) (s4:=5) 10 1 zP 3 2 [[(5,nS)],[],[(10,nS),(113,0)],[(11,nS),(114,1)]] (
  lc Z Z Z (nK (sb:=5) (.head _) Z (hS252 Z) Z U Z)<|
  lc Z Z Z (zy (l:=[]) Z .nil (Io e5))<|
  ll Z<|.nil) ⟨.inl Z,⟨.inl Z,⟨.inl Z,trivial⟩⟩⟩ (zt Z) (tp Z) (hS252 Z) (.head _) [114] [11] (λ _ _ _ y=>?_)
 have y:=y.gn;refine y.eW 11 11 eO.id (tp Z) [] [10] (λ y=>Kb ?_);exact y.uk 10 mP h
theorem Qe:fR prog 119 7 7=true:=by kernel_rfl
theorem sL:fM prog 70 false 1=true:=by kernel_rfl
theorem FK:fR prog 75 0 0=true:=by kernel_rfl
theorem FO:fR prog 75 3 7=true:=by kernel_rfl
theorem O3:fR prog 119 0 0=true:=by kernel_rfl
theorem Pc:fR prog 75 4 8=true:=by kernel_rfl
instance V9:fT prog 119 7 7:=⟨Qe⟩
instance aaO:fT prog 75 0 0:=⟨FK⟩
def YT(x0:Runner)(x1:Int):Option (Runner×(List Stmt)):=
 if(!x0.warm.x.on)=true then none
else((eN x0.t.files x1).bind λ v9=>
(YG x0.warm.x.store v9 x0.warm.x.mode).bind λ a8=>
(fE 56 [] a8.1).bind λ a9=>
 some ({ x0 with warm:=⟨{ x0.warm.x with store:=a8.2.1 }⟩ },a9))
theorem SM{r}(h:YT x0 x1=some r):fP prog 106 (iJ bw) ⟨x0⟩ [dt x1] ⟨r.1⟩ (.eE (dt r.2)):=by
 refine kI (fn:=f106) 1 4 func106 Z Z (λ M G _ b0 _ j=>gj ?_);refine j.zo [(0,1)] (λ j=>?_) (hs:=sc Z (oA Z (wg (α:=Stmt)))<|.nil);refine j.tV (s:=0) 1 true (λ _=>(Pb.eD fa.f7)) [] λ j=>?_;refine j.zo [(0,1)] (λ j=>?_) (hs:=sZ 6 (r:=by exact sc Z (gi (sb:=0) (((Pb.eD fa.f7).kq).eD ki.f0) Z T Z)<|eI));have j:=j.gS (s:=0) 1 [];refine j.cq h (λ h=>?_) λ h=>?_
 .cases h
 refine kB h λ v9 p9 h=>j.tV (s:=0) 1 true (λ _=>(Pb.eD fa.f7)) [] λ j=>?_;refine j.fL 0 1 (((Pb.eD fa.f7).kq).eD ki.f3) [] λ g8 A8 _ hA8 j=>?_;refine j.pre zP 22 29 λ _ j=>?_;refine j.nV (D:=[_,_,_,_,_,_,_,_,_,_,_,_,_,_,_,_,_,_,_,_,_,_]) 22 [] [[(0,nS)],[(26,0)],[(27,1)],[(28,2),(0,nS)],[(29,3)],[(30,4)],[(31,5),(0,nS)],[(0,nS)],[(33,7)],[(34,8)],[(35,9)],[(36,10),(0,nS)],[(1,nS)],[(37,11),(38,12)],[(39,13)],[(0,nS)],[(41,15)],[(42,16)],[(43,17),(0,nS)],[(44,18)],[(45,19)],[(46,20),(0,nS)]] (
  rc Z Z (oM Z U)<|
  rc Z Z (gK Z T)<|
  rc Z Z (eV Z Qe T)<|
  rc Z Z (fS (sb:=0) (.tail _ (.head _)) Z Z Z T Z)<|
  rc Z Z (gK Z T)<|
  rc Z Z (eV Z FO T)<|
  rc Z Z (fS (sb:=0) (.head _) Z Z Z T Z)<|
  rc Z Z (oM Z U)<|
  rc Z Z (gK Z T)<|
  rc Z Z (eV Z O3 T)<|
  rc Z Z (eV Z qI T)<|
  rc Z Z (gi (sb:=0) ((Pb.eD fa.f0).eD Tree.z0) Z T Z)<|
  rc Z Z (oM Z T)<|
  rc Z Z (xIdx Z T T p9)<|
  rc Z Z (zG Z T)<|
  rc Z Z (oM Z U)<|
  rc Z Z (gK Z T)<|
  rc Z Z (eV Z Qe T)<|
  rc Z Z (fS (sb:=0) (.tail _ (.head _)) Z Z Z T Z)<|
  rc Z Z (gK Z T)<|
  rc Z Z (eV Z Pc T)<|
  rc Z Z (gi (sb:=0) (((Pb.eD fa.f7).kq).eD ki.f4) Z T Z)<|.nil) (λ _ h=>by cases h) [29,32,40,47] [(0,1)] rfl ⟨λ _ h=>h,trivial⟩ (λ j=>?_)
 refine GG<|fp 22 ?_;refine j.DW (s:=29) (sb:=0) 1 3 (Pb.eD fa.f7) (.tail _ (.head _)) (.head _) Z Z [32,40,47] Z [] Z Z Z Z λ a8 H14 j=>?_;have j:=j.gn;refine j.iN (s:=32) (sb:=29) 3 0 (Pb.eD ki.f3) (.head _) (zR Z Z) [40,47] [0] @λ a9 H16 j=>?_;have j:=j.gs (Gs':=[H16,a8,eA none,a9]);refine kB h λ b7 b3 h=>j.cT (sb:=32) (l:=[.tmp 40,.tmp 47]) 0 (.cons T (.cons T .nil)) (Vc b3) [] [0,29] λ j=>?_;have j:=j.gn;refine fC trivial ?_;refine j.Ee (i:=23) (sb:=48) 0 Z Z (by decide +kernel) (by decide +kernel) trivial Z Z [0,29] Z Z λ _ j=>?_;refine j.Mc (i:=24) (s:=25) Z Z (λ _ _ _ _ h=>h) trivial Z Z λ _ j=>?_;refine j.Md (i:=25) (s:=25) 0 Z Z (λ _ _ _ _ h=>h) trivial Z Z (λ _ h=>h) [0,29] Z Z λ _ j=>?_;refine j.Me (i:=26) (s:=25) Z Z (λ _ _ _ _ h=>h) trivial Z Z λ _ j=>?_;refine j.Ea (i:=27) Z Z Z (tp Z) Z λ _ j=>?_;refine j.Mg (i:=28) (sb:=50) 0 Z Z (λ _ _ _ _ h=>h) trivial Z Z (λ _ h=>h) [0,29] Z Z λ _ j=>?_;refine j.Ea (i:=29) Z Z Z (tp Z) Z (λ _ j=>kG ?_);refine Ka<|j.iQ (s:=6) 0 [0,29] λ b8 b9 _ b5 j=>?_;refine j.zh 7 [(0,1),(29,3),(56,0)] (λ j=>?_) (hs:=sc Z (oM Z (Gy Z))<|
  sc Z (gK Z T)<|
  sc Z (eV Z Qe T)<|
  sc Z (Hv (sb:=0) Z sL T Z)<|
  sc Z (oM Z T)<|
  sc Z (gK Z T)<|
  sc Z (eV Z FO T)<|.nil)
 have j:=j.fv (s:=56) 0 [0,29];refine j.D9 (sb:=29) (tv:=56) 3 0 Z Z Z PQ (by simp) (by simp) (by decide) (tp Z) Z Z (λ _ h=>h) (λ _ h=>h) [5] Z [0] Z Z Z λ _ _ j=>?_;have j:=j.gn;refine Kb ?_;have j:=j.Ef (s:=29) 3 Z Z [0] Z;refine j.pb (s:=29) (sb:=0) 1 3 Z (by simp) (by simp) (by decide) Z Z (λ _ h=>h) (λ _ h=>h) [5] Z [] Z Z Z λ _ j=>?_;have j:=j.gn;refine kB h λ c8 b6 h=>j.zo [(0,1)] (λ j=>?_) (hs:=sc Z (xj (α:=Stmt) (e:=109) Z)<|sZ 1 (r:=by exact sc Z (B0 Z By T T b6)<|eI));exact j.xD 0 1 h
theorem FM:fR prog 75 2 4=true:=by kernel_rfl
theorem FL:fR prog 75 1 1=true:=by kernel_rfl
instance V':fT prog 119 7 7:=⟨Qe⟩
instance aaP:fT prog 75 0 0:=⟨FK⟩
def YH(x0:Runner)(x1:List Int)(x2:Str)(x3:Str):Option (Runner×Spec):=
 if(!x0.warm.x.on)=true then none
else((JA x0.warm.x.finder x0.warm.x.disk x1 x2 x3).bind λ a8=>
 some ({ x0 with warm:=⟨{ x0.warm.x with finder:=a8.1 }⟩ },a8.2))
theorem HX{x1 r}(h:YH x0 x1 x2 x3=some r):fP prog 148 (iJ bw) ⟨x0⟩ [dt x1,dt x2,dt x3] ⟨r.1⟩ (.eE (dt r.2)):=by
 refine kI (fn:=f148) 2 8 func148 Z Z (λ M G w0 b0 _ j=>gj ?_);refine Ka<|j.fB 4 nd [1,2,3] [0] @λ M2 _ _ b2 j=>?_;have j:=j.gn;refine Kb<|j.tV (s:=0) 2 true (λ _=>(Pb.eD fa.f7)) [8] λ j=>?_;refine j.zo [(0,2),(8,4)] (λ j=>?_) (hs:=sZ 6 (r:=by exact sc Z (gi (sb:=0) (((Pb.eD fa.f7).kq).eD ki.f0) Z T Z)<|eI));have j:=j.gS (s:=0) 2 [8];refine j.cq h (λ h=>?_) λ h=>?_
 .cases h
 refine j.tV (s:=0) 2 true (λ _=>(Pb.eD fa.f7)) [8] λ j=>?_;refine j.mF (s:=0) 2 true (λ _=>(((Pb.eD fa.f7).kq).eD ki.f2)) [8] λ cs10 hS10 j=>?_;refine j.mF (s:=0) 2 true (λ _=>(((Pb.eD fa.f7).kq).eD ki.f1)) [8] λ cs11 hS11 j=>?_;refine kB h λ a8 a9 h=>j.held (SW b0 7 (fm bw) bw 4 cs10 1 cs11) zP λ _ j=>?_;have hS16:=j.KZ (s:=0) Z (.tail _ (.tail _ (.head _))) Z (.tail _ (.head _)) (.head _);refine j.tN 0 0 hS16 λ _ j=>?_;refine j.tk (i:=1) Z Z (by decide +kernel) (by decide +kernel) (by decide +kernel) (λ _ _ _ h=>h) hS16 (oH Z (j.st.has 28 _ Z)) λ _ j=>?_;refine j.tk (i:=2) Z Z (by decide +kernel) (by decide +kernel) (by decide +kernel) (λ _ _ _ h=>h) hS16 (mo Z Qe (j.st.has 29 _ Z)) λ _ j=>?_;refine j.tk (i:=3) Z Z (by decide +kernel) (by decide +kernel) (by decide +kernel) (λ _ _ _ h=>h) hS16 (pC Z sL (j.st.has 30 _ Z) (λ _ h=>h.1)) λ _ j=>?_;refine j.tk (i:=4) Z Z (by decide +kernel) (by decide +kernel) (by decide +kernel) (λ _ _ _ h=>h) hS16 (oH Z (j.st.has 31 _ Z)) λ _ j=>?_;refine j.tk (i:=5) Z Z (by decide +kernel) (by decide +kernel) (by decide +kernel) (λ _ _ _ h=>h) hS16 (mo Z FM (j.st.has 32 _ Z)) λ _ j=>?_;refine j.tk (i:=6) Z Z (by decide +kernel) (by decide +kernel) (by decide +kernel) (λ _ _ _ h=>h) hS16 (Hz Z pq (j.st.has 33 _ Z) (hS10 Z) (λ _ h=>h.2.1)) λ _ j=>?_;refine j.AL (i:=7) (sb:=0) Z Z hS16 Z Z Z λ _ j=>?_;refine j.tk (i:=8) Z Z (by decide +kernel) (by decide +kernel) (by decide +kernel) (λ _ _ _ h=>h) hS16 (oH Z (j.st.has 35 _ Z)) λ _ j=>?_;refine j.tk (i:=9) Z Z (by decide +kernel) (by decide +kernel) (by decide +kernel) (λ _ _ _ h=>h) hS16 (mo Z Qe (j.st.has 36 _ Z)) λ _ j=>?_;refine j.tk (i:=10) Z Z (by decide +kernel) (by decide +kernel) (by decide +kernel) (λ _ _ _ h=>h) hS16 (pC Z sL (j.st.has 37 _ Z) (λ _ h=>h.1)) λ _ j=>?_;refine j.tk (i:=11) Z Z (by decide +kernel) (by decide +kernel) (by decide +kernel) (λ _ _ _ h=>h) hS16 (oH Z (j.st.has 38 _ Z)) λ _ j=>?_;refine j.tk (i:=12) Z Z (by decide +kernel) (by decide +kernel) (by decide +kernel) (λ _ _ _ h=>h) hS16 (mo Z FL (j.st.has 39 _ Z)) λ _ j=>?_;refine j.tk (i:=13) Z Z (by decide +kernel) (by decide +kernel) (by decide +kernel) (λ _ _ _ h=>h) hS16 (Hz Z lU (j.st.has 40 _ Z) (hS11 Z) (λ _ h=>h.2.2)) λ _ j=>?_;refine j.AK (i:=14) (sb:=1) Z Z hS16 Z Z Z Z λ _ j=>?_;refine j.tM 15 2 hS16 λ _ j=>?_;refine j.tM 16 3 hS16 λ _ j=>?_;have j:=j.K3 41 Z (j.LH (s:=0) (((Pb.eD fa.f7).kq).eD ki.f1) (.head _) (QG Z (hS11 Z)) Z);refine j.DW (s:=31) (sb:=0) 2 7 (Pb.eD fa.f7) (.tail _ (.tail _ (.head _))) (.tail _ (.head _)) Z Z [34,41,42,43,44] Z [8] Z Z Z Z λ _ H35 j=>?_;have j:=j.gn;refine j.iN (s:=34) (sb:=31) 7 0 (Pb.eD ki.f2) (.head _) (QG Z (hS10 Z)) [41,42,43,44] [0,8] λ j=>?_;have j:=j.gn;have j:=j.Mn (s:=31) 7 Z hS16.2.1 hS16.2.2 Z (λ _ h=>h) [0,8,34] Z;have j:=(j.DX (X:=(λ b=>eY (some b) 0 Wo)) 10 6 Z).DX (X:=(λ b=>eJ gN (eA (some b)) ⟨xb⟩ (.pointer (some ⟨b,0,none⟩)) [])) 9 5 Z;have j:=j.um [41,42,43,44] Z [(9,5),(10,6),(0,2),(31,7),(8,4),(34,0)] Z ⟨λ _ h=>h,⟨λ _ h=>h,⟨λ _ h=>h,⟨λ _ h=>h,⟨λ _ h=>h,⟨λ _ h=>h,trivial⟩⟩⟩⟩⟩⟩;refine Es 1 2097151 21 22 (λ c1 c2=>bif c1&&c2 then[23] else[]) (T:=(λ c1 c2 a w=>∃ (M1:Nat->Prop) (g1 g2:Option Nat) (q0 q3 q4:Nat->Prop),g1.isSome=c1/\g2.isSome=c2/\Sx (eG.ft w0 G) 56 M M1 [q4,eA none,q0,eA none,eA (some b2),eA g1,eA g2,q3] [(47,dt a8.2)] [(9,5,pk g1 (λ b=>eJ gN (eA (some b)) ⟨xb⟩ (.pointer (some ⟨b,0,none⟩)) [])),(10,6,pk g2 (λ b=>eY (some b) 0 Wo)),(0,2,nz (iJ bw) (Ow.kq bw kh) q0 (.pointer (some ⟨b0,0,none⟩)) b0 7 (fm bw) (λ z:Bx ga=>(⟨{ x0 with warm:=z }⟩:Bx Runner))),(31,7,sE (Ow.box kh) ij q3 (fm bw) bw 4 (λ z:fj=>(⟨{ x0.warm.x with finder:=z }⟩:Bx ga)) 4 cs10 1 cs11),(8,4,eY (some b2) 0 Wo),(46,0,eH ij q4 a8.1)] a w)) Z Z ?_ ?_ ?_ λ nP=>?_
 .rintro c2 a w ⟨M1,g1,g2,q0,q3,q4,e1,e2,st⟩
  obtain rfl:g1=none:=by simpa using e1
  refine st.gZ (ow:=ij) (d0:=xb) 5 (gr.z Ow.gB) [47] [10,0,31,8,46] λ b M2 a w st=>?_;exact⟨st.oV (s:=0) (t:=31),M2,some b,g2,q0,q3,q4,Z,e2,st.uf (X:=(λ b=>eJ gN (eA (some b)) ⟨xb⟩ (.pointer (some ⟨b,0,none⟩)) [])) (λ k hk=>by injection hk with hk;exact hk.symm)⟩
 .rintro c1 a w ⟨M1,g1,g2,q0,q3,q4,e1,e2,st⟩
  obtain rfl:g2=none:=by simpa using e2
  refine st.alloc 6 Z Z BS nd (by simp) [47] Z [9,0,31,8,46] Z Z λ b M2 a w st=>?_;exact⟨st.oV (s:=0) (t:=31),M2,g1,some b,q0,q3,q4,e1,Z,(st.uf (X:=(λ b=>eY (some b) 0 Wo)) (λ k hk=>by injection hk with hk;exact hk.symm)).swp Z⟩
 .rintro c1 c2 a w ⟨M1,g1,g2,q0,q3,q4,e1,e2,st⟩ i hi
  cases c1 with
  | false=>cases(hi:i∈([]:List Nat))
  |true=>cases c2 with
   | false=>cases(hi:i∈([]:List Nat))
   |true=>
    obtain rfl:i=23:=aH.1 hi;obtain⟨iy,rfl⟩:=dk.1 e1;obtain⟨bx2,rfl⟩:=dk.1 e2;have j:=(st.DY (s:=10) 6 Z Z [0,8,9,31,46] Z).DY (s:=9) 5 Z Z [0,8,10,31,46] Z;refine vx Z ?_;refine j.iS (sb:=9) (tv:=46) 5 0 Pb (zt Z) [47] [0,8,10,31] λ j=>?_;refine⟨j.oV (s:=0) (t:=31),?_⟩;refine fp 24 ?_;refine j.eW 10 6 eO.id (tp Z) [] [0,8,9,31] λ j=>?_;refine fC (j.oV (s:=0) (t:=31)) ?_;refine kG ?_;have j:=j.Lj (s:=31) 7 Z Z (λ _ h=>h) [0,8,9,10] Z;have j:=j.gn;refine j.mF (s:=9) 5 true (λ _=>Pb) [0,8,10,31] λ cs47 hS47 j=>?_;refine j.zu 7 [(0,2),(8,4),(9,5),(10,6),(31,7)] (λ j=>?_) (hs:=sw Z (oM Z (Gy Z))<|sw Z (gK Z T)<|sw Z (eV Z Qe T)<|sw Z (Hv (sb:=0) Z sL T Z)<|sw Z (nK (sb:=9) (.head _) Z (hS47 Z) Z U Z)<|sw Z (gK Z T)<|sw Z (eV Z FM T)<|.nil);refine j.iN (s:=52) (sb:=9) 5 3 Pb (.head _) (QG Z (hS47 Z)) [54] [0,8,10,31] λ j=>?_;have j:=j.gn;refine j.kg 31 52 7 3 (tp Z) [] [0,8,9,10] λ j=>?_;have j:=j.gn;refine Kb ?_;have j:=j.Ef (s:=31) 7 Z Z [0,8,9,10] Z;refine j.pb (s:=31) (sb:=0) 2 7 Z (by simp) (by simp) (by decide) Z Z (λ _ h=>h) (λ _ h=>h) [] Z [8,9,10] Z Z Z λ _ j=>?_;have j:=j.gn;refine Ka<|j.zh 1 [(0,2),(8,4),(9,5)] λ j=>?_;refine j.eW 8 4 eO.id (tp Z) [] [0] (λ j=>Kb ?_);exact j.xC 0 2 h
 refine Es 5 131071 21 22 (λ _ _=>[17]) (T:=(λ c1 c2 a w=>∃ (M1:Nat->Prop) (g1 g2:Option Nat) (q0 q3 q4:Nat->Prop),g1.isSome=c1/\g2.isSome=c2/\Sx (eG.ft w0 G) 56 M M1 [q4,eA none,q0,eA none,eA (some b2),eA g1,eA g2,q3] [(41,dt x0.warm.x.disk),(42,dt x1),(43,dt x2),(44,dt x3)] [(9,5,pk g1 (λ b=>eJ gN (eA (some b)) ⟨xb⟩ (.pointer (some ⟨b,0,none⟩)) [])),(10,6,pk g2 (λ b=>eY (some b) 0 Wo)),(0,2,nz (iJ bw) (Ow.kq bw kh) q0 (.pointer (some ⟨b0,0,none⟩)) b0 7 (fm bw) (λ z:Bx ga=>(⟨{ x0 with warm:=z }⟩:Bx Runner))),(31,7,sE (Ow.box kh) ij q3 (fm bw) bw 4 (λ z:fj=>(⟨{ x0.warm.x with finder:=z }⟩:Bx ga)) 4 cs10 1 cs11),(8,4,eY (some b2) 0 Wo),(34,0,eH ij q4 x0.warm.x.finder)] a w)) Z Z ?_ ?_ ?_ λ nN=>?_
 .rintro c2 a w ⟨M1,g1,g2,q0,q3,q4,e1,e2,st⟩
  obtain rfl:g1=none:=by simpa using e1
  refine st.gZ (ow:=ij) (d0:=xb) 5 (gr.z Ow.gB) [41,42,43,44] [10,0,31,8,34] λ b M2 a w st=>?_;exact⟨st.oV (s:=0) (t:=31),M2,some b,g2,q0,q3,q4,Z,e2,st.uf (X:=(λ b=>eJ gN (eA (some b)) ⟨xb⟩ (.pointer (some ⟨b,0,none⟩)) [])) (λ k hk=>by injection hk with hk;exact hk.symm)⟩
 .rintro c1 a w ⟨M1,g1,g2,q0,q3,q4,e1,e2,st⟩
  obtain rfl:g2=none:=by simpa using e2
  refine st.alloc 6 Z Z BS nd (by simp) [41,42,43,44] Z [9,0,31,8,34] Z Z λ b M2 a w st=>?_;exact⟨st.oV (s:=0) (t:=31),M2,g1,some b,q0,q3,q4,e1,Z,(st.uf (X:=(λ b=>eY (some b) 0 Wo)) (λ k hk=>by injection hk with hk;exact hk.symm)).swp Z⟩
 .rintro c1 c2 a w ⟨M1,g1,g2,q0,q3,q4,e1,e2,st⟩ i hi
  obtain rfl:i=17:=aH.1 hi;refine vx Z ?_;refine st.cT (sb:=34) (l:=[.tmp 41,.tmp 42,.tmp 43,.tmp 44]) 0 (.cons T (.cons T (.cons T (.cons T .nil)))) (SP a9) [] [9,10,0,31,8] @λ q5 _ _ _ j=>?_;have hz60:=j.oV (s:=0) (t:=31);refine⟨hz60,?_⟩;rw[u6 (m':=262143)];refine j.Ee (i:=18) (sb:=45) 0 Z Z (Bp) (B8) hz60 Z Z [9,10,0,31,8] Z Z λ _ j=>?_;rw[u6 (m':=524287)];refine j.L9 (i:=19) (s:=27) 0 Z Z (Bp) (B8) (λ _ _ _ _ h=>h) hz60 Z Z (λ _ h=>h) [9,10,0,31,8] Z Z λ _ j=>?_;rw[u6 (m':=1048575)];refine j.Ma (i:=20) (s:=27) Z Z (Bp) (B8) (λ _ _ _ _ h=>h) hz60 Z Z λ _ j=>?_;rw[u6 (m':=2097151)];exact nP c1 c2 _ _ ⟨_,g1,g2,q0,q3,q5,e1,e2,j.um [47] Z [(9,5),(10,6),(0,2),(31,7),(8,4),(46,0)] Z ⟨λ _ h=>h,⟨λ _ h=>h,⟨λ _ h=>h,⟨λ _ h=>h,⟨λ _ h=>h,⟨λ _ h=>h,trivial⟩⟩⟩⟩⟩⟩⟩
 exact MJ nN ⟨_,none,none,_,_,_,Z,Z,j⟩ Z
