import Derived.Test.YtoomehfflopakaaGreatDoorTK
namespace Go.Proofs.YtoomehfflopakaaGreatDoor
open Go.RowKit Tryz
attribute [local irreducible] eP eC
set_option maxRecDepth 10000
set_option maxHeartbeats 1600000
variable{r:Bool}{x1 x3:Int}{x0:List GAct}{bw:Nat}{R:Rec}{x2:Stmt}{x4:ga}
theorem O4:fR prog 119 1 1=true:=by kernel_rfl
theorem O6:fR prog 119 6 6=true:=by kernel_rfl
theorem FI:fR prog 119 5 5=true:=by kernel_rfl
theorem FU:gb prog 64=true:=by kernel_rfl
theorem Pp:gb prog 107=true:=by kernel_rfl
theorem BD:fR prog 119 4 4=true:=by kernel_rfl
theorem Po:gb prog 104=true:=by kernel_rfl
theorem BM:lM prog 117 142 6=true:=by kernel_rfl
theorem BQ:mC prog 117=true:=by kernel_rfl
instance V2:fT prog 119 1 1:=⟨O4⟩
instance V4:fT prog 119 2 2:=⟨WM⟩
instance V6:fT prog 119 4 4:=⟨BD⟩
instance V7:fT prog 119 5 5:=⟨FI⟩
instance V8:fT prog 119 6 6:=⟨O6⟩
instance Z':fT prog 142 0 0:=⟨rK⟩
instance aaa:fT prog 142 1 1:=⟨uS⟩
instance aac:fT prog 142 3 3:=⟨BE⟩
instance aae:fT prog 142 4 4:=⟨BF⟩
instance aai:fT prog 142 5 5:=⟨Qc⟩
instance aap:fT prog 188 1 1:=⟨tG⟩
def ZD(x0:Runner)(x1:Str):Option (Runner×Spec):=
(wd x1).bind λ v3=>
 ite ((decide (v3=⟨[]⟩))=true) ((YH x0 x0.path ⟨[]⟩ x1).bind λ a9=>
 some (a9.1,a9.2))<|(wH x0 v3).bind λ a8=>
(gO (ez .lss a8.2 0 == false) (eN a8.1.mods a8.2)).bind λ b5=>
 ite ((ez .lss a8.2 0||ez .eql b5.kind 1)=true) ((Ju).bind λ b6=>
 some (a8.1,b6))<|(eN a8.1.mods a8.2).bind λ b7=>
(Yp x1).bind λ b8=>
(YH a8.1 b7.roots v3 b8).bind λ b3=>
 some (b3.1,b3.2)
theorem ID{x0 x1 r}(h:ZD x0 x1=some r):fP prog 104 (iJ bw) ⟨x0⟩ [dt x1] ⟨r.1⟩ (.eE (dt r.2)):=by
 unfold ZD at h;refine kI (fn:=f104) 0 2 func104 Z Z (λ M G _ b0 _ j=>Kc ?_);refine Ka<|j.fB 1 nd [1] [0] (λ b2 j=>Kb ?_);refine za ?_;obtain⟨v3,p3,h⟩:=mh h Im;refine j.iR [1,5] [(0,0),(4,1)] (λ j=>Kc ?_);refine j.iR [1,5,10] [(0,0),(4,1)] λ j=>?_;refine j.cs h (λ _ h=>?_) λ _ h=>?_
 .refine Kc ?_
  refine Ka<|j.fN 6 (sP 4 (r:=by exact sc Z (gi (sb:=0) (Pb.eD fa.f1) Z T Z)<|lF)) [11,15,16] [(0,0),(4,1)] λ j=>?_;refine kB h λ d3 b6 h=>j.gL 0 0 (HX b6) [] [4] λ j=>?_;refine j.eW 4 1 eO.id (tp Z) [] [0] (λ j=>Kb ?_);exact za<|wp_ret<|zS<|j.xC 0 0 h
 refine az ?_;refine za<|Kc<|Ka<|j.segC 2 [1,5,18,19] [(0,0),(4,1)] λ j=>?_;refine kB h λ b7 b8 h=>j.gL 0 0 (Ys b8) [1,5] [4] λ j=>?_;refine j.segA 1 [1,5,6] [(0,0),(4,1)] (λ j=>Kb ?_);refine za<|Kc<|kB h λ d4 b3 h=>j.oZ (s:=0) 0 (ez .lss b7.2 (0:Int) == false) (λ hg=>(Pb.eD fa.f2)) [4] λ b9 d5 _ a8 j=>?_;refine j.kL (sc Z (oM Z T)<|
  sc Z (gU Z T cI)<|
  sc Z (oM Z T)<|
  sg Z Z (λ hg=>oM Z U)<|
  sg Z Z (λ hg=>gK Z V)<|
  sg Z Z (λ hg=>eV Z WM V)<|
  sg Z Z (λ hg=>fS (sb:=0) (.head _) hg Z Z V Z)<|
  sg Z Z (λ hg=>oM Z T)<|
  sg Z Z (λ hg=>gJ (g:=b9) Z Ws V V Z (λ h=>a8 h hg) (gh hg b3))<|
  sg Z Z (λ hg=>eV Z uS V)<|
  sg Z Z (λ hg=>gi (sb:=0) (((Pb.eD fa.f2).row (.head _) hg (λ h=>a8 h hg) (gh hg b3)).eD fD.f1) Z V Z)<|
  sg Z Z (λ hg=>gU Z V cI)<|
  sc Z (qe Z T T)<|.nil) [1,5,6,33] [(0,0),(4,1)] (λ j=>?_)
 have j:=j.gS (s:=0) 0 [4];refine j.cs h (λ _ h=>?_) λ _ h=>?_
 .refine Kc ?_
  refine Ka ?_;obtain⟨d6,d7,h⟩:=mh h Io;refine j.segA 1 [34] [(0,0),(4,1)] λ j=>?_;refine j.eW 4 1 eO.id (tp Z) [] [0] (λ j=>Kb ?_);exact za<|wp_ret<|zS<|j.xC 0 0 h
 refine az ?_;refine za<|Kc<|Kx h λ e0 b5 e3 c8 h=>j.fL 0 0 (Pb.eD fa.f2) [4] λ d1 e4 _ a9 j=>?_;refine j.rU (D:=[_,_,_,_,_,_,_,_,_,_,_,_]) zP 12 [[(0,nS)],[(0,nS)],[(36,1)],[(37,2)],[(38,3),(0,nS)],[(6,nS)],[(39,4),(40,5)],[(41,6)],[(42,7),(0,nS)],[(5,nS)],[(1,nS)],[(45,10)],[(35,0),(43,8),(44,9),(46,11)],[(4,nS),(47,12)]] [35,43,44,46] [(0,0),(4,1)] (λ _ _ j=>?_) (hs:=rc Z Z (oM Z U)<|
  rc Z Z (oM Z U)<|
  rc Z Z (gK Z T)<|
  rc Z Z (eV Z WM T)<|
  rc Z Z (fS (sb:=0) (.head _) Z Z Z T Z)<|
  rc Z Z (oM Z T)<|
  rc Z Z (gJ (g:=d1) Z Ws T T Z (λ h=>a9 h Z) b5)<|
  rc Z Z (eV Z FJ T)<|
  rc Z Z (gi (sb:=0) (((Pb.eD fa.f2).row (.head _) Z (λ h=>a9 h Z) b5).eD fD.f2) Z T Z)<|
  rc Z Z (oM Z T)<|
  rc Z Z (oM Z T)<|
  rc Z Z (zy (l:=[.tmp 45]) Z (.cons T .nil) (CN c8))<|.nil)
 refine kB h λ e5 d2 h=>j.gL 0 0 (HX d2) [] [4] λ j=>?_;refine j.eW 4 1 eO.id (tp Z) [] [0] (λ j=>Kb ?_);exact za<|wp_ret<|j.xC 0 0 h
def xW(R:Rec)(x1:Int)(x2:List Stmt)(s2:Runner×Int):Option ((Runner×Int)⊕Runner):=
 ite ((ez .lss s2.2 x2.length)=true) (ite (ez .eql s2.1.left 0) (some (.inr {s2.1 with fin:=6}))<|(i64 (s2.1.left - 1)).bind λ a9=>
(eN x2 s2.2).bind λ b3=>
(R.spec_runStmt {s2.1 with left:=a9} x1 b3).bind λ a8=>
 ite (ez .neq a8.fin 0) (some (.inr a8))<|(i64 (s2.2+1)).bind λ b5=>
 some (.inl (a8,b5)))<|some (.inr s2.1)
def QN(R:Rec)(x0:Runner)(x1:Int)(x2:List Stmt):Option Runner:=
 zE (λ s2=>xW R x1 x2 s2) (x0,0)
theorem VB(hR:R.ok){x0 x2 r}(h:QN R x0 x1 x2=some r):fP prog 105 (iJ bw) ⟨x0⟩ [dt x1,dt x2] ⟨r⟩ .gone:=by
 refine kI (fn:=f105) 0 1 func105 Z Z (λ M G w0 b0 _ j=>gj ?_);refine j.zo [(0,0)] λ j=>?_;refine gk h (λ s2 a w=>∃ M1 Q,Sx (eG.ft w0 G) 41 M M1 [Q] [(1,dt x1),(2,dt x2),(6,dt s2.2)] [(0,0,eJ (iJ bw) Q ⟨s2.1⟩ (.pointer (some ⟨b0,0,none⟩)) [])] a w) fx ?_;rintro s2 z2 _ _ ⟨_,Q,j⟩ h hx2;refine j.zd [(0,0)] h (λ j h=>?_) λ j h=>?_
 .refine j.zd [(0,0)] h (λ j h=>?_) (λ j h=>?_) (hs:=sZ 3 (r:=by exact sc Z (gi (sb:=0) (Pb.eD fa.f6) Z T Z)<|eI))
  .refine Ka ?_
   refine j.zh 3 [(0,0)] λ j=>?_;refine j.gX 0 0 (Pb.eD fa.f5) (tp Z) cI [] [] (λ j=>Kb ?_);exact(j.iD (s:=0) 0 (iy (lo h hx2))).1
  refine Ka<|kB h λ a9 b3 h=>j.zh 8 [(0,0)] (λ j=>?_) (hs:=sZ 4 (r:=by exact sc Z (gi (sb:=0) (Pb.eD fa.f6) Z T Z)<|eI));refine j.gX 0 0 (Pb.eD fa.f6) (tp Z) (tp Z) [1,2,6] [] (λ j=>Kb ?_);refine Ka<|kB h λ b5 b6 h=>j.zh 6 [(0,0)] λ j=>?_;refine kB h λ b7 a8 h=>j.gL 0 0 (fP.any (hR.spec_runStmt a8)) [1,2,6] [] (λ j=>Kb ?_);refine j.zd [(0,0)] h (λ j h=>?_) (λ j h=>?_) (hs:=sZ 3 (r:=by exact sc Z (gi (sb:=0) (Pb.eD fa.f5) Z T Z)<|eI))
  .have h:=lo h hx2
   exact(j.iD (s:=0) 0 (iy h)).1
  exact kB h λ b8 b9 h=>j.zn [(0,0)] h
 exact(j.iD (s:=0) 0 (iy (lo h hx2))).2
def WO(R:Rec)(x0:Runner)(x1:Int)(x2:Stmt):Option Runner:=
 ite (ez .eql x2.kind 0) ((R.spec_importName x0 x2.module).bind λ v8=>
(qJ x2.module (UInt8.ofNat 46)).bind λ b6=>
(eN b6 0).bind λ a8=>
 ite (ez .neq v8.1.fin 0) (some v8.1)<|(wH v8.1 a8).bind λ a9=>
 ite (ez .lss a9.2 0) (some {a9.1 with fin:=1})<|(wH a9.1 a8).bind λ b3=>
(wI b3.1 x1 a8 (⟨1,b3.2⟩:fu)).bind λ b7=>
 some b7)<|ite (ez .eql x2.kind 1) ((R.spec_runFrom x0 x1 x2).bind λ b8=>
 some b8)<|ite (ez .eql x2.kind 2) ((R.spec_runStar x0 x1 x2).bind λ b9=>
 some b9)<|ite (ez .eql x2.kind 3) ((wI x0 x1 x2.name (⟨0,x2.value⟩:fu)).bind λ c8=>
 some c8)<|ite (ez .eql x2.kind 4) ((eN x0.mods x1).bind λ d1=>
(ZC d1.attrs x2.name).bind λ b5=>
 ite (ez .lss b5 0) (some {x0 with fin:=3})<|(eN x0.mods x1).bind λ d2=>
(eN d2.attrs b5).bind λ d3=>
(WN d3.value).bind λ d4=>
(fE 8 x0.out [d4]).bind λ d5=>
 some {x0 with out:=d5})<|ite (ez .eql x2.kind 5) (some {x0 with fin:=4})<|some x0
theorem VC(hR:R.ok){x0 r}(h:WO R x0 x1 x2=some r):fP prog 150 (iJ bw) ⟨x0⟩ [dt x1,dt x2] ⟨r⟩ .gone:=by
 refine kI (fn:=f150) 1 2 func150 Z Z (λ M G _ b0 _ j=>gj ?_);refine j.zo [(0,1)] λ j=>?_;refine j.zo [(0,1)] λ j=>?_;refine j.zd [(0,1)] h (λ j h=>?_) λ j h=>?_
 .refine Ka ?_
  refine j.zh 3 [(0,1)] λ j=>?_;refine kB h λ v8 p8 h=>j.gL 1 0 (hR.spec_importName p8) [1,5] [] (λ j=>Kb ?_);refine Kx h λ e6 e7 e8 e9 h=>j.zo [(0,1)] λ j=>?_;refine j.zd [(0,1)] h (λ j h=>?_) (λ j h=>?_) (hs:=sZ 3 (r:=by exact sc Z (gi (sb:=0) (Pb.eD fa.f5) Z T Z)<|eI))
  .exact(j.iD (s:=0) 1 (iy h)).1
  refine Ka<|j.zh 2 [(0,1)] λ j=>?_;refine kB h λ f9 b8 h=>j.gL 1 0 (Ys b8) [1,6] [] λ j=>?_;refine j.zh 1 [(0,1)] (λ j=>Kb ?_);refine j.cq h (λ h=>?_) λ h=>?_
  .refine Ka ?_
   refine j.zh 3 [(0,1)] λ j=>?_;refine j.gX 0 1 (Pb.eD fa.f5) (tp Z) cI [] [] (λ j=>Kb ?_);exact(j.iD (s:=0) 1 (iy h)).1
  refine Ka<|j.zh 5 [(0,1)] λ j=>?_;refine kB h λ g0 b9 h=>j.gL 1 0 (Ys b9) [33,34,35] [] λ j=>?_;refine j.zh 1 [(0,1)] (λ j=>?_) (hs:=sc Z (Wr Z cI T)<|.nil);refine kB h λ g3 c8 h=>j.gL 1 0 (fP.any (Xl c8)) [] [] (λ j=>Kb ?_);exact(j.iD (s:=0) 1 (iy h)).2
 refine j.zd [(0,1)] h (λ j h=>?_) λ j h=>?_
 .refine Ka ?_
  refine j.zh 3 [(0,1)] λ j=>?_;refine kB h λ g4 d1 h=>j.gL 1 0 (fP.any (hR.spec_runFrom d1)) [] [] (λ j=>Kb ?_);exact(j.iD (s:=0) 1 (iy h)).2
 refine j.zd [(0,1)] h (λ j h=>?_) λ j h=>?_
 .refine Ka ?_
  refine j.zh 3 [(0,1)] λ j=>?_;refine kB h λ g5 d2 h=>j.gL 1 0 (fP.any (hR.spec_runStar d2)) [] [] (λ j=>Kb ?_);exact(j.iD (s:=0) 1 (iy h)).2
 refine j.zd [(0,1)] h (λ j h=>?_) λ j h=>?_
 .refine Ka ?_
  refine j.zh 7 [(0,1)] (λ j=>?_) (hs:=sZ 6 (r:=by exact sc Z (Wr Z cI T)<|.nil));refine kB h λ g6 d3 h=>j.gL 1 0 (fP.any (Xl d3)) [] [] (λ j=>Kb ?_);exact(j.iD (s:=0) 1 (iy h)).2
 refine j.zd [(0,1)] h (λ j h=>?_) λ j h=>?_
 .have⟨g7,b5,h⟩:=bs h
  refine kB h λ g8 d4 h=>j.fL 0 1 (Pb.eD fa.f2) [] λ d5 g9 _ a8 j=>?_;refine j.fL 0 1 (((Pb.eD fa.f2).row (.head _) Z (λ h=>a8 h Z) b5).eD fD.f5) [] λ h0 h3 _ d6 j=>?_;refine j.zv [(0,1)] (λ j=>?_) (hs:=sV 5 (r:=by exact sw Z (gJ (g:=d5) Z Ws T T Z (λ h=>a8 h Z) b5)<|sV 4 (r:=by exact sw Z (yC (l:=[.tmp 72,.tmp 74]) j.ob.sub Z (.cons (mw (sb:=0) j.ob 1 (((Pb.eD fa.f2).row (.tail _ (.head _)) Z (λ h=>a8 h Z) b5).eD fD.f5) (.head _) Z (zR Z Z) T Z) (.cons (yG j.ob.sub T) .nil)) (Jy.1 d4) xQ)<|sw Z (oA Z T)<|.nil)));have j:=j.gS (s:=0) 1 [];refine j.zd [(0,1)] h (λ j h=>?_) λ j h=>?_
  .refine Ka ?_
   refine j.zh 3 [(0,1)] λ j=>?_;refine j.gX 0 1 (Pb.eD fa.f5) (tp Z) cI [] [] (λ j=>Kb ?_);exact(j.iD (s:=0) 1 (iy h)).1
  refine j.held (λ _=>True) zP λ _ j=>?_;refine j.tN 0 0 trivial λ _ j=>?_;refine Kx h λ h4 b6 h5 b7 h=>kB h λ h6 d7 h=>j.fL 0 1 (Pb.eD fa.f4) [] λ h7 h8 _ e0 j=>?_;refine j.fL 0 1 (Pb.eD fa.f2) [] λ e3 h9 _ a9 j=>?_;refine j.fL 0 1 (((Pb.eD fa.f2).row (.head _) Z (λ h=>a9 h Z) b6).eD fD.f5) [] λ e4 i0 _ b3 j=>?_;refine j.nV (D:=[_,_,_,_,_,_,_,_,_,_,_,_,_,_,_,_,_,_,_]) 19 [0] [[(0,nS)],[(0,nS)],[(82,1)],[(83,2)],[(84,3),(0,nS)],[(0,nS)],[(86,5)],[(87,6)],[(88,7),(0,nS)],[(1,nS)],[(89,8),(90,9)],[(91,10)],[(92,11),(0,nS)],[(7,nS)],[(93,12),(94,13)],[(95,14)],[(96,15),(0,nS)],[(97,16)],[(98,17)],[(85,4),(99,18)],[(81,0)],[(101,20)],[(102,21),(100,19)]] (
   rc Z Z (oM Z U)<|
   rc Z Z (oM Z U)<|
   rc Z Z (gK Z T)<|
   rc Z Z (eV Z BD T)<|
   rc Z Z (fS (sb:=0) (.tail _ (.tail _ (.head _))) Z Z Z T Z)<|
   rc Z Z (oM Z U)<|
   rc Z Z (gK Z T)<|
   rc Z Z (eV Z WM T)<|
   rc Z Z (fS (sb:=0) (.tail _ (.head _)) Z Z Z T Z)<|
   rc Z Z (oM Z T)<|
   rc Z Z (gJ (g:=e3) Z Ws T T Z (λ h=>a9 h Z) b6)<|
   rc Z Z (eV Z Qc T)<|
   rc Z Z (fS (sb:=0) (.head _) Z Z Z T Z)<|
   rc Z Z (oM Z T)<|
   rc Z Z (gJ (g:=e4) Z my T T Z (λ h=>b3 h Z) b7)<|
   rc Z Z (eV Z tG T)<|
   rc Z Z (gi (sb:=0) (((((Pb.eD fa.f2).row (.tail _ (.head _)) Z (λ h=>a9 h Z) b6).eD fD.f5).row (.head _) Z (λ h=>b3 h Z) b7).eD fI.z1) Z T Z)<|
   rc Z Z (zy (l:=[.tmp 97]) Z (.cons T .nil) (IZ.1 d7))<|
   rc Z Z (wa (opds:=[.tmp 98]) Z Z Z (.cons T .nil))<|.nil) (by
 intro i hi x d hx
 simp only[aj,aF,bI] at hi
 rcases hi with rfl
 all_goals (injection hx with hx;injection hx with h1 h2;subst h1;subst h2;rfl)) [81,85,99] [(0,1)] Z ⟨λ _ h=>h,trivial⟩ (λ j=>?_)
  refine j.iN (s:=85) (sb:=0) 1 0 (Pb.eD fa.f4) (.tail _ (.tail _ (.head _))) (zR Z Z) [81,99] [] λ j=>?_;refine j.kx (s:=85) 0 (by first | (simp;done) | exact oD rfl) [0] λ i3 j=>?_;refine kB h λ i4 e5 h=>j.ic 0 yW e5 [81] [0] λ i5 j=>?_;refine j.zh 2 [(0,1),(100,0)] λ j=>?_;have j:=j.iO (s:=100) 0 [0];refine j.kg 0 100 1 0 (tp Z) [] [] (λ j=>Kb ?_);exact(j.iD (s:=0) 1 (iy h)).2
 refine j.zd [(0,1)] h (λ j h=>?_) λ j h=>?_
 .refine Ka ?_
  refine j.zh 3 [(0,1)] λ j=>?_;refine j.gX 0 1 (Pb.eD fa.f5) (tp Z) cI [] [] (λ j=>Kb ?_);exact(j.iD (s:=0) 1 (iy h)).2
 exact(j.iD (s:=0) 1 (iy h)).2
def wJ(R:Rec)(x1:Int)(a9:List fI)(a8:Runner×Int):Option ((Runner×Int)⊕Runner):=
 ite ((ez .lss a8.2 a9.length)=true) (Option.bind ((eN a9 a8.2).bind λ b3=>
(eN b3.name.l 0).bind λ b5=>
 ite ((gT .neq b5 (UInt8.ofNat 122))=true) ((eN a9 a8.2).bind λ b6=>
(eN a9 a8.2).bind λ b7=>
(wI a8.1 x1 b6.name b7.value).bind λ b8=>
 some b8)<|some a8.1) λ b9=>
(i64 (a8.2+1)).bind λ c8=>
 some (.inl (b9,c8)))<|some (.inr a8.1)
def Xn(R:Rec)(x0:Runner)(x1:Int)(x2:Stmt):Option Runner:=
(R.spec_importName x0 x2.module).bind λ v4=>
 ite (ez .neq v4.1.fin 0) (some v4.1)<|(eN v4.1.mods v4.2).bind λ a8=>
(fE 32 [] a8.attrs).bind λ a9=>
 zE (λ b3=>wJ R x1 a9 b3) (v4.1,0)
theorem VD(hR:R.ok){x0 r}(h:Xn R x0 x1 x2=some r):fP prog 186 (iJ bw) ⟨x0⟩ [dt x1,dt x2] ⟨r⟩ .gone:=by
 unfold Xn at h;refine kI (fn:=f186) 0 1 func186 Z Z λ M G w0 b0 _ j=>?_;refine j.iR [1,5] [(0,0)] (λ j=>Kc ?_);refine Ka<|j.segC 3 [1,9,11] [(0,0)] λ j=>?_;refine kB h λ v4 p4 h=>j.gL 0 0 (hR.spec_importName p4) [1] [] λ j=>?_;refine j.segA 1 [1,6] [(0,0)] (λ j=>Kb ?_);refine za<|Kc<|j.kL (sP 3 (r:=by exact sc Z (gi (sb:=0) (Pb.eD fa.f5) Z T Z)<|lF)) [1,6,17] [(0,0)] λ j=>?_;refine j.cs h (λ _ h=>?_) λ _ h=>?_
 .refine wp_ret (zS ?_)
  exact(j.iD (s:=0) 0 (iy h)).1
 refine az ?_;refine za<|Kx h λ e3 b3 b5 b8 h=>j.fL 0 0 (Pb.eD fa.f2) [] λ b9 e4 _ a8 j=>?_;refine j.fL 0 0 (((Pb.eD fa.f2).row (.head _) Z (λ h=>a8 h Z) b3).eD fD.f5) [] λ e5 e6 _ c8 j=>?_;refine j.kL (sc Z (xj (α:=fI) (e:=188) Z (ht':=my))<|sP 5 (r:=by exact sc Z (gJ (g:=b9) Z Ws T T Z (λ h=>a8 h Z) b3)<|sP 2 (r:=by exact sc Z (Gq Z FG T (GP (sb:=0) (((Pb.eD fa.f2).row (.tail _ (.head _)) Z (λ h=>a8 h Z) b3).eD fD.f5) (.head _) Z (zR Z Z) Z T) b8)<|lF))) [1,7] [(0,0)] λ j=>?_;have j:=j.gS (s:=0) 0 [];refine j.iR [1,7,8] [(0,0)] (λ j=>aX ?_);refine Qw h (λ a9 a w=>∃ M1 Q,Sx (eG.ft w0 G) 54 M M1 [Q] [(1,dt x1),(7,dt b5),(8,dt a9.2)] [(0,0,eJ (iJ bw) Q ⟨a9.1⟩ (.pointer (some ⟨b0,0,none⟩)) [])] a w) fx ?_;rintro a9 d1 _ _ ⟨_,Q,j⟩ h b7;refine Kc<|j.iR [1,7,8,31] [(0,0)] λ j=>?_;refine j.cs h (λ _ h=>?_) λ _ h=>?_
 .refine az ?_
  refine za ?_;have⟨d2,d3,d4⟩:=bs h;refine Yo (λ a w=>∃ M1 Q,Sx (eG.ft w0 G) 54 M M1 [Q] [(1,dt x1),(7,dt b5),(8,dt a9.2)] [(0,0,eJ (iJ bw) Q ⟨d2⟩ (.pointer (some ⟨b0,0,none⟩)) [])] a w) ?_ ?_
  .refine aX ?_
   have⟨e7,e8,h⟩:=bs d3;refine kB h λ e9 d5 h=>j.kL (sP 5 (r:=by exact sc Z (nH Z T cI d5)<|sc Z (px Z T (Q8))<|.nil)) [1,7,8,40] [(0,0)] λ j=>?_;refine j.cs h (λ _ h=>?_) λ _ h=>?_
   .have⟨f9,d6,h⟩:=bs h
    refine kB h λ g0 d7 h=>j.rU (D:=[_,_,_,_,_,_,_,_,_,_,_,_]) zP 12 [[(0,nS)],[(1,nS)],[(7,nS)],[(8,nS)],[(43,2),(44,3)],[(45,4)],[(46,5)],[(7,nS)],[(8,nS)],[(48,7),(49,8)],[(50,9)],[(51,10)],[(41,0),(42,1),(47,6),(52,11)]] [1,7,8,41,42,47,52] [(0,0)] (λ _ _ j=>?_) (hs:=rc Z Z (oM Z U)<|
      rc Z Z (oM Z T)<|
      rc Z Z (oM Z T)<|
      rc Z Z (oM Z T)<|
      rc Z Z (xIdx Z (ht':=my) T T d6)<|
      rc Z Z (zI fI.gD Z T)<|
      rc Z Z (zG Z T)<|
      rc Z Z (oM Z T)<|
      rc Z Z (oM Z T)<|
      rc Z Z (xIdx Z (ht':=my) T T d7)<|
      rc Z Z (zI fI.gA Z (ht:=tG) T)<|
      rc Z Z (zG Z T)<|.nil)
    refine kB h λ g3 e0 h=>j.kV (l:=[.tmp 42,.tmp 47,.tmp 52]) 0 (j.lr (s:=0)) Z Z Pp (ek (j.st.has 41 _ Z) (j.st.has 0 _ Z).1.symm) (by simp) (.cons T (.cons T (.cons T .nil))) (fP.any (Xl e0)) [1,7,8] Z [] Z Z (by decide) (λ j=>Kb ?_);refine yI<|za ?_;cases h;exact fx
   refine az ?_;refine yI<|za ?_;cases h;exact fx
  rintro _ _ ⟨_,Q,j⟩;have h:=d4;refine kB h λ g4 g5 h=>j.lK [1,7,8] [(0,0)] (λ j=>za ?_);exact fl h
 refine ch (yv (yv (xX ?_)));exact(j.iD (s:=0) 0 (iy (lo h b7))).2
def WP(R:Rec)(x0:Runner)(x1:Int)(x2:Stmt):Option Runner:=
(eN x0.mods x1).bind λ v3=>
(Yf v3).bind λ v5=>
(Xm v5 x2.level x2.module).bind λ v6=>
(yz v6).bind λ b3=>
 ite ((!b3)=true) (some {x0 with fin:=5})<|(R.spec_importName x0 v6).bind λ a8=>
 ite (ez .neq a8.1.fin 0) (some a8.1)<|(R.spec_fromName a8.1 a8.2 x2.name).bind λ a9=>
 ite (ez .eql a9.1.fin 0) ((wI a9.1 x1 x2.name a9.2).bind λ b5=>
 some b5)<|some a9.1
theorem VE(hR:R.ok){x0 r}(h:WP R x0 x1 x2=some r):fP prog 185 (iJ bw) ⟨x0⟩ [dt x1,dt x2] ⟨r⟩ .gone:=by
 refine kI (fn:=f185) 0 2 func185 Z Z (λ M G _ b0 _ j=>gj ?_);refine j.zo [(0,0)] λ j=>?_;refine Kx h λ v3 p3 v5 p5 h=>kB h λ v6 p6 h=>j.fL 0 0 (Pb.eD fa.f2) [] λ g2 A2 _ hA2 j=>?_;refine j.mF (s:=0) 0 true (λ _=>((Pb.eD fa.f2).row (.head _) Z (λ h=>hA2 h Z) p3)) [] λ cs4 hS4 j=>?_;refine j.zv [(0,0)] (λ j=>?_) (hs:=sV 5 (r:=by exact sw Z (gJ (g:=g2) Z Ws T T Z (λ h=>hA2 h Z) p3)<|sw Z (nK (sb:=0) (.head _) Z (hS4 Z) Z T Z)<|sw Z (yC (l:=[.tmp 15]) j.ob.sub Z (.cons (mw (sb:=0) j.ob 0 ((Pb.eD fa.f2).row (.tail _ (.head _)) Z (λ h=>hA2 h Z) p3) (.head _) Z (QG Z (hS4 Z)) T Z) .nil) (HE.1 p5) Bm)<|sV 4 (r:=by exact sw Z (zy (l:=[.tmp 16,.tmp 18,.tmp 20]) Z (.cons T (.cons T (.cons T .nil))) (HT.1 p6))<|sw Z (oA Z T)<|.nil)));have j:=j.gS (s:=0) 0 [];refine kB h λ b5 b6 h=>j.zd [(0,0)] h (λ j h=>?_) λ j h=>?_
 .refine Ka ?_
  refine j.zh 3 [(0,0)] λ j=>?_;refine j.gX 0 0 (Pb.eD fa.f5) (tp Z) cI [] [] (λ j=>Kb ?_);exact(j.iD (s:=0) 0 (iy h)).1
 refine Ka<|j.zh 2 [(0,0)] λ j=>?_;refine kB h λ b7 a8 h=>j.gL 0 0 (hR.spec_importName a8) [1,5] [] λ j=>?_;refine j.zh 1 [(0,0)] (λ j=>Kb ?_);refine j.zd [(0,0)] h (λ j h=>?_) (λ j h=>?_) (hs:=sZ 3 (r:=by exact sc Z (gi (sb:=0) (Pb.eD fa.f5) Z T Z)<|eI))
 .exact(j.iD (s:=0) 0 (iy h)).1
 refine Ka<|j.zh 4 [(0,0)] λ j=>?_;refine kB h λ b8 a9 h=>j.gL 0 0 (hR.spec_fromName a9) [1,5] [] λ j=>?_;refine j.fB 1 nR [1,5,40] [0] λ b9 j=>?_;refine j.eW 8 1 eO.id (tp Z) [1,5] [0] (λ j=>Kb ?_);refine j.zd [(0,0),(8,1)] h (λ j h=>?_) (λ j h=>?_) (hs:=sZ 3 (r:=by exact sc Z (gi (sb:=0) (Pb.eD fa.f5) Z T Z)<|eI))
 .refine Ka ?_
  refine j.zh 5 [(0,0)] λ j=>?_;refine kB h λ c8 b3 h=>j.gL 0 0 (fP.any (Xl b3)) [] [] (λ j=>Kb ?_);exact(j.iD (s:=0) 0 (iy h)).2
 exact(j.iD (s:=0) 0 (iy h)).2
def Wf(R:Rec)(x0:Runner)(x1:Int)(x2:Str):Option (Runner×fu):=
(eN x0.mods x1).bind λ v4=>
(ZC v4.attrs x2).bind λ v6=>
 ite (ez .geq v6 0) ((eN x0.mods x1).bind λ b7=>
(eN b7.attrs v6).bind λ b8=>
 some (x0,b8.value))<|(eN x0.mods x1).bind λ b9=>
(wi b9.name x2).bind λ a9=>
(eN x0.mods x1).bind λ b5=>
(gO (ez .eql b5.kind 1 == false) (yz a9)).bind λ c8=>
 ite ((ez .eql b5.kind 1||(!c8))=true) (some ({ x0 with fin:=2 },⟨0,0⟩))<|(wH x0 a9).bind λ a8=>
(gO (ez .lss a8.2 0 == true) (ZD a8.1 a9)).bind λ b3=>
 ite ((ez .lss a8.2 0&&ez .eql b3.2.kind 0)=true) (some ({ (if(ez .lss a8.2 0 == true)=true then b3.1 else a8.1) with fin:=2 },⟨0,0⟩))<|(R.spec_importName (if(ez .lss a8.2 0 == true)=true then b3.1 else a8.1) a9).bind λ b6=>
 some (b6.1,(⟨1,b6.2⟩:fu))
theorem Vd(hR:R.ok){x0 x2 r}(h:Wf R x0 x1 x2=some r):fP prog 209 (iJ bw) ⟨x0⟩ [dt x1,dt x2] ⟨r.1⟩ (.eE (dt r.2)):=by
 refine kI (fn:=f209) 0 2 func209 Z Z (λ M G _ b0 _ j=>gj ?_);refine Ka<|j.fB 1 nR [1,2] [0] (λ b2 j=>Kb ?_);refine Kx h λ v4 p4 v6 p6 h=>j.fL 0 0 (Pb.eD fa.f2) [6] λ g3 A3 _ hA3 j=>?_;refine j.fL 0 0 (((Pb.eD fa.f2).row (.head _) Z (λ h=>hA3 h Z) p4).eD fD.f5) [6] λ g5 A5 _ hA5 j=>?_;refine j.hU (sZ 5 (r:=by exact sc Z (gJ (g:=g3) Z Ws T T Z (λ h=>hA3 h Z) p4)<|sZ 3 (r:=by exact sc Z (yC (l:=[.tmp 16,.tmp 17]) j.ob.sub Z (.cons (mw (sb:=0) j.ob 0 (((Pb.eD fa.f2).row (.tail _ (.head _)) Z (λ h=>hA3 h Z) p4).eD fD.f5) (.head _) Z (zR Z Z) T Z) (.cons (yG j.ob.sub T) .nil)) (Jy.1 p6) xQ)<|eI))) [1,2,7] [(0,0),(6,1)] λ j=>?_;have j:=j.gS (s:=0) 0 [6];refine j.lK [1,2,7,20] [(0,0),(6,1)] λ j=>?_;refine j.cq h (λ h=>?_) λ h=>?_
 .refine Ka ?_
  refine Kx h λ e3 b6 e4 b7 h=>j.fL 0 0 (Pb.eD fa.f2) [6] λ c8 e5 _ a8 j=>?_;refine j.fL 0 0 (((Pb.eD fa.f2).row (.head _) Z (λ h=>a8 h Z) b6).eD fD.f5) [6] λ d1 e6 _ a9 j=>?_;refine j.fN 12 (sZ 5 (r:=by exact sc Z (gJ (g:=c8) Z Ws T T Z (λ h=>a8 h Z) b6)<|sZ 3 (r:=by exact sc Z (gJ (g:=d1) Z my T T Z (λ h=>a9 h Z) b7)<|sZ 1 (r:=by exact sc Z (gi (sb:=0) (((((Pb.eD fa.f2).row (.tail _ (.head _)) Z (λ h=>a8 h Z) b6).eD fD.f5).row (.head _) Z (λ h=>a9 h Z) b7).eD fI.z1) Z T Z)<|.nil)))) [32] [(0,0),(6,1)] λ j=>?_;refine j.eW 6 1 eO.id (tp Z) [] [0] (λ j=>Kb ?_);have j:=j.gS (s:=0) 0 [6];exact j.xC 0 0 h
 refine Kx h λ e7 b8 e8 d2 h=>j.fL 0 0 (Pb.eD fa.f2) [6] λ d3 e9 _ b3 j=>?_;refine j.hU (sZ 5 (r:=by exact sc Z (gJ (g:=d3) Z Ws T T Z (λ h=>b3 h Z) b8)<|sZ 1 (r:=by exact sc Z (gi (sb:=0) (((Pb.eD fa.f2).row (.head _) Z (λ h=>b3 h Z) b8).eD fD.f0) Z T Z)<|sZ 1 (r:=by exact sc Z (oK (WD d2))<|eI)))) [1,8] [(0,0),(6,1)] λ j=>?_;have j:=j.gS (s:=0) 0 [6];refine Kx h λ f9 b9 g0 d4 h=>j.fL 0 0 (Pb.eD fa.f2) [6] λ d5 g4 _ b5 j=>?_;refine j.hU (sZ 5 (r:=by exact sc Z (gJ (g:=d5) Z Ws T T Z (λ h=>b5 h Z) b9)<|sZ 1 (r:=by exact sc Z (gi (sb:=0) (((Pb.eD fa.f2).row (.head _) Z (λ h=>b5 h Z) b9).eD fD.f1) Z T Z)<|sZ 3 (r:=by exact sg Z Z (λ hg=>oK (Je (gh hg d4)))<|eI)))) [8,56] [(0,0),(6,1)] λ j=>?_;have j:=j.gS (s:=0) 0 [6];refine j.cq h (λ h=>?_) λ h=>?_
 .refine Ka ?_
  refine j.segC 3 [59] [(0,0),(6,1)] λ j=>?_;refine j.gX 0 0 (Pb.eD fa.f5) (tp Z) cI [] [6] (λ j=>Kb ?_);refine Ka<|j.fN 1 (sc Z (yf (parts:=[]) (ns:=[1,1]) (zs:=Ao) Z Z (λ w a hl=>by simp) (λ w a hl=>fu.parts (x:=(⟨0,0⟩:fu)) ⟨Z,trivial⟩ ⟨Z,trivial⟩))<|.nil) [60] [(0,0),(6,1)] λ j=>?_;refine j.eW 6 1 eO.id (tp Z) [] [0] (λ j=>Kb ?_);exact j.xC 0 0 h
 refine Ka<|j.segC 2 [8,61,62] [(0,0),(6,1)] λ j=>?_;refine kB h λ g6 d6 h=>j.gL 0 0 (Ys d6) [8] [6] λ j=>?_;refine j.fN 4 (sc Z (gU Z T cI)<|
  sc Z (oM Z T)<|
  sg Z Z (λ hg=>oM Z U)<|
  sg Z Z (λ hg=>oM Z T)<|.nil) [8,65,66,67] [(0,0),(6,1)] (λ j=>?_)
 refine kB h λ g7 d7 h=>j.DL (sb:=0) (l:=[.tmp 67]) 0 Z (λ _ h=>h) Z Z Z Po (λ hg=>(j.st.has 66 _ Z).1 hg) (by simp) (λ hg=>(.cons V .nil)) (λ hg=>ID (gh hg d7)) [8,65] Z [6] Z Z (by decide) λ _ _ _ _ j=>?_;refine j.fN 3 (sg Z Z (λ hg=>Gw Spec.gD Z Z V)<|eI) [8,71] [(0,0),(6,1)] (λ j=>Kb ?_);refine j.cq h (λ h=>?_) λ h=>?_
 .refine Ka ?_
  refine j.segC 3 [74] [(0,0),(6,1)] λ j=>?_;refine j.gX 0 0 (Pb.eD fa.f5) (tp Z) cI [] [6] (λ j=>Kb ?_);refine Ka<|j.fN 1 (sc Z (yf (parts:=[]) (ns:=[1,1]) (zs:=Ao) Z Z (λ w a hl=>by simp) (λ w a hl=>fu.parts (x:=(⟨0,0⟩:fu)) ⟨Z,trivial⟩ ⟨Z,trivial⟩))<|.nil) [75] [(0,0),(6,1)] λ j=>?_;refine j.eW 6 1 eO.id (tp Z) [] [0] (λ j=>Kb ?_);exact j.xC 0 0 h
 refine Ka<|j.segC 2 [76,77] [(0,0),(6,1)] λ j=>?_;refine kB h λ g8 e0 h=>j.gL 0 0 (hR.spec_importName e0) [] [6] λ j=>?_;refine j.fN 1 (sc Z (Wr Z cI T)<|.nil) [79] [(0,0),(6,1)] λ j=>?_;refine j.eW 6 1 eO.id (tp Z) [] [0] (λ j=>Kb ?_);exact j.xC 0 0 h
def Y5(R:Rec)(x0:Runner)(x1:Str):Option (Runner×Int):=
(wH x0 x1).bind λ v4=>
 ite (ez .geq v4.2 0) ((jL v4.1 3 x1).bind λ e0=>
 some (e0,v4.2))<|(wd x1).bind λ b5=>
(gO (decide (b5≠⟨[]⟩) == true) (R.spec_importName v4.1 b5)).bind λ b9=>
 ite ((decide (b5≠⟨[]⟩)&&ez .lss b9.2 0)=true) (some ((if(decide (b5≠⟨[]⟩) == true)=true then b9.1 else v4.1),(-1)))<|(wH (if(decide (b5≠⟨[]⟩) == true)=true then b9.1 else v4.1) x1).bind λ b8=>
 ite (ez .geq b8.2 0) ((jL b8.1 3 x1).bind λ e3=>
 some (e3,b8.2))<|(ZD b8.1 x1).bind λ a8=>
 ite (ez .eql a8.2.kind 0) (some ({ a8.1 with fin:=1 },(-1)))<|Option.bind ((fE 80 a8.1.mods [⟨x1,a8.2.kind,a8.2.roots,true,false,[]⟩]).bind λ e4=>
 some {a8.1 with mods:=e4}) λ e5=>
(jL e5 0 x1).bind λ b6=>
 Option.bind (ite (ez .geq a8.2.file 0) ((YT b6 a8.2.file).bind λ b7=>
(R.spec_runBody b7.1 a8.1.mods.length b7.2).bind λ c8=>
 some c8)<|some b6) λ a9=>
 ite (ez .neq a9.fin 0) ((eN a9.mods a8.1.mods.length).bind λ d1=>
(jL ({ a9 with mods:=(a9.mods.set (a8.1.mods.length:Int).toNat {d1 with cached:=false}) }) 2 x1).bind λ d2=>
 some (d2,(-1)))<|(eN a9.mods a8.1.mods.length).bind λ d3=>
(jL ({ a9 with mods:=(a9.mods.set (a8.1.mods.length:Int).toNat {d3 with done:=true}) }) 1 x1).bind λ d4=>
 Option.bind ((wH d4 b5).bind λ b3=>
 ite (ez .geq b3.2 0) ((Yp x1).bind λ d5=>
(wI b3.1 b3.2 d5 (⟨1,a8.1.mods.length⟩:fu)).bind λ d6=>
 some d6)<|some b3.1) λ d7=>
 some (d7,a8.1.mods.length)
theorem UW(hR:R.ok){x0 x1 r}(h:Y5 R x0 x1=some r):fP prog 64 (iJ bw) ⟨x0⟩ [dt x1] ⟨r.1⟩ (.eE (dt r.2)):=by
 refine kI (fn:=f64) 4 6 func64 Z Z (λ M G w0 b0 _ j=>gj ?_);refine j.hU eI [1] [(0,4)] (λ j=>Ka ?_);refine j.fN 2 eI [1,11,12] [(0,4)] λ j=>?_;refine kB h λ v4 p4 h=>j.gL 4 0 (Ys p4) [1] [] λ j=>?_;refine j.fN 1 eI [1,5] [(0,4)] (λ j=>Kb ?_);refine j.hU eI [1,5,15] [(0,4)] λ j=>?_;refine j.cq h (λ h=>?_) λ h=>?_
 .refine Ka ?_
  refine j.fN 2 eI [5,16,17] [(0,4)] λ j=>?_;refine kB h λ k7 h1 h=>j.gL 4 0 (fP.any (JN h1)) [5] [] (λ j=>Kb ?_);refine j.hU eI [4] [(0,4)] λ j=>?_;exact j.xF 0 4 h
 refine kB h λ g7 k8 h=>j.hU eI [1,6] [(0,4)] (λ j=>Ka ?_);refine j.fN 5 (sc Z (oM Z T)<|
  sc Z (rP Z T (yM))<|
  sc Z (oM Z T)<|
  sg Z Z (λ hg=>oM Z U)<|
  sg Z Z (λ hg=>oM Z T)<|.nil) [1,6,24,25,26] [(0,4)] (λ j=>?_)
 refine kB h λ k9 h2 h=>j.DL (sb:=0) (l:=[.tmp 26]) 4 Z (λ _ h=>h) Z Z Z FU (λ hg=>(j.st.has 25 _ Z).1 hg) (by simp) (λ hg=>(.cons V .nil)) (λ hg=>hR.spec_importName (gh hg h2)) [1,6,24] Z [] Z Z (by decide) λ _ _ _ _ j=>?_;have j:=j.gn;refine j.fN 2 eI [1,6,29] [(0,4)] (λ j=>Kb ?_);refine j.cq h (λ h=>?_) λ h=>?_
 .refine j.hU eI [4] [(0,4)] λ j=>?_
  exact j.xF 0 4 h
 refine Ka<|j.fN 2 eI [1,6,30,31] [(0,4)] λ j=>?_;refine kB h λ l3 h3 h=>j.gL 4 0 (Ys h3) [1,6] [] λ j=>?_;refine j.fN 1 eI [1,6,7] [(0,4)] (λ j=>Kb ?_);refine j.hU eI [1,6,7,34] [(0,4)] λ j=>?_;refine j.cq h (λ h=>?_) λ h=>?_
 .refine Ka ?_
  refine j.fN 2 eI [7,35,36] [(0,4)] λ j=>?_;refine kB h λ l4 h4 h=>j.gL 4 0 (fP.any (JN h4)) [7] [] (λ j=>Kb ?_);refine j.hU eI [4] [(0,4)] λ j=>?_;exact j.xF 0 4 h
 refine Ka<|j.fN 2 eI [1,6,39,40] [(0,4)] λ j=>?_;refine kB h λ a8 h5 h=>j.gL 4 0 (ID h5) [1,6] [] @λ b5 _ _ _ j=>?_;refine j.fB 5 nd [1,6,41] [0] λ l5 j=>?_;have j:=j.gn;refine j.eW 8 5 eO.id (tp Z) [1,6] [0] λ j=>?_;have j:=j.Av 5 (s:=8) [1,6] [0];have j:=j.gn;refine Kb<|j.hU eI [1,6,8,44] [(0,4)] λ j=>?_;refine j.cq h (λ h=>?_) λ h=>?_
 .refine Ka ?_
  refine j.fN 3 eI [47] [(0,4)] λ j=>?_;refine j.gX 0 4 (Pb.eD fa.f5) (tp Z) cI [] [] (λ j=>Kb ?_);refine j.hU eI [4] [(0,4)] λ j=>?_;exact j.xF 0 4 h
 refine j.fL 0 4 (Pb.eD fa.f2) [] λ l6 l7 _ h6 j=>?_;refine j.hU (sZ 4 (r:=by exact sc Z (oE Z T)<|eI)) [1,6,8,9] [(0,4)] (λ j=>za ?_);have j:=j.gS (s:=0) 4 [];have⟨h7,h8,h9⟩:=bs h;refine ib (λ a w=>∃ M1 Q W X Y A B,Sx (eG.ft w0 G) 119 M M1 [Q,W,X,Y,A,eA B] [(1,dt x1),(6,dt g7),(8,eX a8.2),(9,dt (a8.1.mods.length:Int))] [(0,4,eJ (iJ bw) A ⟨h7⟩ (.pointer (some ⟨b0,0,none⟩)) [])] a w) ?_ ?_
 .refine j.AD (s:=8) λ i0 i3 i4 j=>?_
  refine j.held (λ w=>iu w i0 i3 i4) zP λ _ j=>?_;refine j.tN 0 0 (j.fX 8) λ _ j=>?_;refine j.tN 1 0 (j.fX 8) λ _ j=>?_;refine j.tk (i:=2) Z Z (by decide +kernel) (by decide +kernel) (by decide +kernel) (λ _ _ _ h=>h) (j.nX (s:=8)) (oH Z (j.st.has 54 _ Z)) λ _ j=>?_;refine j.tk (i:=3) Z Z (by decide +kernel) (by decide +kernel) (by decide +kernel) (λ _ _ _ h=>h) (j.nX (s:=8)) (mo Z WM (j.st.has 55 _ Z)) λ _ j=>?_;refine j.tM 5 1 (j.fX 8) λ _ j=>?_;refine j.tA 6 8 (λ _ j=>?_) (ht:=O7);refine j.tF 7 8 59 Spec.gD λ _ j=>?_;refine j.tA 8 8 (λ _ j=>?_) (ht:=O8);refine j.tF 9 8 61 Spec.iv λ _ j=>?_;have⟨l8,d2,h⟩:=bs h8;refine iU 4 10 ?_ ?_
  .refine j.fL 0 4 (Pb.eD fa.f2) [] λ l9 m0 _ i5 j=>?_
   refine j.fN 1 eI [1,6,8,9,53,57,58,60,62] [(0,4)] λ j=>?_;refine fC (j.fX 8) ?_;refine fp 10 ?_;refine j.lN (ow:=(fD lb)) (parts:=[(0,.tmp 58),(1,.tmp 60),(2,.tmp 62),(3,.const (.bool true))]) (ns:=[1,1,1,1,1,1]) (zs:=DC) (x:=(⟨x1,a8.2.kind,a8.2.roots,true,false,[]⟩:eZ)) 1 [] (FA ⟨by decide,ey.len (α:=Str) (j.oc T)⟩ (FA ⟨by decide,ey.len (α:=Int) (j.oc T)⟩ (FA ⟨by decide,ey.len (α:=List Int) (j.oc T)⟩ (FA ⟨by decide,Z⟩ FN)))) (((fD lb)).more (fD.mk (x:=(⟨x1,a8.2.kind,a8.2.roots,true,false,[]⟩:eZ)) (j.oc T) (j.oc T) (j.oc T) (eC.cells cB (λ s y hs=>j.st.has s y hs)) ⟨Z,trivial⟩ (Ow.gB _ _)) (λ b=>(λ hb=>hb.elim))) [1,6,8,9,53,57] [0] (@λ g8 _ _ j=>?_);have j:=j.gs (Gs':=[eA none,g8,eA none,eA none,b5,eA none]);have j:=j.gs (Gs':=[eA none,g8,eA none,eA none,b5,eA none]);refine fC (j.fX 8) ?_;refine fp 11 ?_;refine j.lO (oe:=(fD lb)) (opds:=[.tmp 63]) (xs:=[(⟨x1,a8.2.kind,a8.2.roots,true,false,[]⟩:eZ)]) 2 [1] BM BQ (Z2 (yy (j.st.has 63 _ Z)) (λ b hb=>⟨1,by simp,hb⟩)) (λ q hq=>by
 simp only[aj,aF,bI] at hq
 subst hq
 exact Ow.len _ (yy (j.st.has 63 _ Z))) [1,6,8,9,53,57] [0] (@λ b6 _ _ _ j=>?_)
   have j:=j.gs (Gs':=[eA none,eA none,b6,eA none,b5,eA none]);refine fC (j.nX (s:=8)) ?_;refine fp 12 ?_;refine j.iN (s:=57) (sb:=0) 4 3 (Pb.eD fa.f2) (.head _) (zR Z Z) [1,6,8,9,53] [64] @λ d3 H103 j=>?_;have j:=j.gs (Gs':=[eA none,eA none,b6,H103,d3,eA none]);refine j.oW 3 2 d2 [1,6,8,9,53] [0] λ j=>?_;have j:=j.gn;refine fC (j.fX 8) ?_;refine fp 13 ?_;refine j.fN 1 eI [1,6,8,9,66] [(0,4),(65,3)] λ j=>?_;refine fC (j.fX 8) ?_;refine fp 14 ?_;refine j.fN 1 eI [1,6,8,9,67] [(0,4),(65,3)] λ j=>?_;refine fC (j.fX 8) ?_;refine fp 15 ?_;refine j.kg 0 65 4 3 (tp Z) [1,6,8,9] [] λ j=>?_;have j:=j.gn;refine fC (j.fX 8) ?_;refine kG ?_;have j:=j.nU (s:=8);cases h;exact fz
  .refine j.lN (ow:=(fD lb)) (parts:=[(0,.tmp 58),(1,.tmp 60),(2,.tmp 62),(3,.const (.bool true))]) (ns:=[1,1,1,1,1,1]) (zs:=DC) (x:=(⟨x1,a8.2.kind,a8.2.roots,true,false,[]⟩:eZ)) 1 [] (FA ⟨by decide,ey.len (α:=Str) (j.oc T)⟩ (FA ⟨by decide,ey.len (α:=Int) (j.oc T)⟩ (FA ⟨by decide,ey.len (α:=List Int) (j.oc T)⟩ (FA ⟨by decide,Z⟩ FN)))) (((fD lb)).more (fD.mk (x:=(⟨x1,a8.2.kind,a8.2.roots,true,false,[]⟩:eZ)) (j.oc T) (j.oc T) (j.oc T) (eC.cells cB (λ s y hs=>j.st.has s y hs)) ⟨Z,trivial⟩ (Ow.gB _ _)) (λ b=>(λ hb=>hb.elim))) [1,6,8,9,53,56] [0] (@λ b7 _ _ j=>?_)
   have j:=j.gs (Gs':=[eA none,b7,eA none,eA none,b5,eA none]);have j:=j.gs (Gs':=[eA none,b7,eA none,eA none,b5,eA none]);refine fC (j.fX 8) ?_;refine iU 4 11 ?_ ?_
   .refine j.fL 0 4 (Pb.eD fa.f2) [63] λ i6 i7 _ g9 j=>?_
    refine j.fN 1 eI [1,6,8,9,53,57] [(0,4),(63,1)] λ j=>?_;refine fC (j.fX 8) ?_;refine fp 11 ?_;refine j.lO (oe:=(fD lb)) (opds:=[.tmp 63]) (xs:=[(⟨x1,a8.2.kind,a8.2.roots,true,false,[]⟩:eZ)]) 2 [1] BM BQ (Z2 (yy (j.st.has 63 _ Z)) (λ b hb=>⟨1,by simp,hb⟩)) (λ q hq=>by
 simp only[aj,aF,bI] at hq
 subst hq
 exact Ow.len _ (yy (j.st.has 63 _ Z))) [1,6,8,9,53,57] [0] (@λ b8 _ _ _ j=>?_)
    have j:=j.gs (Gs':=[eA none,eA none,b8,eA none,b5,eA none]);refine fC (j.nX (s:=8)) ?_;refine fp 12 ?_;refine j.iN (s:=57) (sb:=0) 4 3 (Pb.eD fa.f2) (.head _) (zR Z Z) [1,6,8,9,53] [64] @λ d4 H119 j=>?_;have j:=j.gs (Gs':=[eA none,eA none,b8,H119,d4,eA none]);refine j.oW 3 2 d2 [1,6,8,9,53] [0] λ j=>?_;have j:=j.gn;refine fC (j.fX 8) ?_;refine fp 13 ?_;refine j.fN 1 eI [1,6,8,9,66] [(0,4),(65,3)] λ j=>?_;refine fC (j.fX 8) ?_;refine fp 14 ?_;refine j.fN 1 eI [1,6,8,9,67] [(0,4),(65,3)] λ j=>?_;refine fC (j.fX 8) ?_;refine fp 15 ?_;refine j.kg 0 65 4 3 (tp Z) [1,6,8,9] [] λ j=>?_;have j:=j.gn;refine fC (j.fX 8) ?_;refine kG ?_;have j:=j.nU (s:=8);cases h;exact fz
   .refine j.lO (oe:=(fD lb)) (opds:=[.tmp 63]) (xs:=[(⟨x1,a8.2.kind,a8.2.roots,true,false,[]⟩:eZ)]) 2 [1] BM BQ (Z2 (yy (j.st.has 63 _ Z)) (λ b hb=>⟨1,by simp,hb⟩)) (λ q hq=>by
 simp only[aj,aF,bI] at hq
 subst hq
 exact Ow.len _ (yy (j.st.has 63 _ Z))) [1,6,8,9,53,56] [0] (@λ b9 _ _ _ j=>?_)
    have j:=j.gs (Gs':=[eA none,eA none,b9,eA none,b5,eA none]);refine fC (j.nX (s:=8)) ?_;refine fp 4 ?_;refine j.fL 0 4 (Pb.eD fa.f2) [64] λ i8 i9 _ h0 j=>?_;refine j.fN 1 eI [1,6,8,9,53,57] [(0,4),(64,2)] λ j=>?_;refine fC (j.fX 8) ?_;refine fp 12 ?_;refine j.iN (s:=57) (sb:=0) 4 3 (Pb.eD fa.f2) (.head _) (zR Z Z) [1,6,8,9,53] [64] @λ d5 H132 j=>?_;have j:=j.gs (Gs':=[eA none,eA none,b9,H132,d5,eA none]);refine j.oW 3 2 d2 [1,6,8,9,53] [0] λ j=>?_;have j:=j.gn;refine fC (j.fX 8) ?_;refine fp 13 ?_;refine j.fN 1 eI [1,6,8,9,66] [(0,4),(65,3)] λ j=>?_;refine fC (j.fX 8) ?_;refine fp 14 ?_;refine j.fN 1 eI [1,6,8,9,67] [(0,4),(65,3)] λ j=>?_;refine fC (j.fX 8) ?_;refine fp 15 ?_;refine j.kg 0 65 4 3 (tp Z) [1,6,8,9] [] λ j=>?_;have j:=j.gn;refine fC (j.fX 8) ?_;refine kG ?_;have j:=j.nU (s:=8);cases h;exact fz
 rintro _ _ ⟨_,Q,W,X,Y,A,B,j⟩;have h:=h9;refine Ka<|j.fN 2 eI [1,6,8,9,68,69] [(0,4)] λ j=>?_;refine kB h λ j1 d6 h=>j.gL 4 0 (fP.any (JN d6)) [1,6,8,9] [] (λ j=>Kb ?_);refine za ?_;have⟨d7,e0,e3⟩:=bs h;refine ib (λ a w=>∃ M1 Q W X Y A B,Sx (eG.ft w0 G) 119 M M1 [Q,W,X,Y,A,eA B] [(1,dt x1),(6,dt g7),(9,dt (a8.1.mods.length:Int))] [(0,4,eJ (iJ bw) A ⟨d7⟩ (.pointer (some ⟨b0,0,none⟩)) [])] a w) ?_ ?_
 .refine j.hU eI [1,6,8,9,73] [(0,4)] λ j=>?_
  refine j.cq e0 (λ h=>?_) λ h=>?_
  .refine Ka ?_
   refine j.fN 5 eI [1,6,9,74,75,76,78] [(0,4)] λ j=>?_;refine kB h λ j2 e4 h=>j.gL 4 0 (SM e4) [1,6,9,74,75] [] λ j=>?_;refine kB h λ j3 e5 h=>j.gL 4 0 (fP.any (hR.spec_runBody e5)) [1,6,9] [] (λ j=>Kb ?_);cases h;exact fz
  cases h;exact fz
 rintro _ _ ⟨_,Q,W,X,Y,A,B,j⟩;have h:=e3;refine j.hU (sZ 3 (r:=by exact sc Z (gi (sb:=0) (Pb.eD fa.f5) Z T Z)<|eI)) [1,6,9,85] [(0,4)] λ j=>?_;refine j.cq h (λ h=>?_) λ h=>?_
 .refine Ka ?_
  refine kB h λ j4 c8 h=>j.fL 0 4 (Pb.eD fa.f2) [] λ e6 j5 _ a9 j=>?_;refine j.fN 7 (sZ 5 (r:=by exact sc Z (gJ (g:=e6) Z Ws T T Z (λ h=>a9 h Z) c8)<|eI)) [1,92] [(0,4)] λ j=>?_;refine j.gX 0 4 (((Pb.eD fa.f2).row (.head _) Z (λ h=>a9 h Z) c8).eD fD.f3) (tp Z) cB [1] [] (λ j=>Kb ?_);refine Ka<|j.fN 2 eI [93,94] [(0,4)] λ j=>?_;refine kB h λ j6 e7 h=>j.gL 4 0 (fP.any (JN e7)) [] [] (λ j=>Kb ?_);refine j.hU eI [4] [(0,4)] λ j=>?_;exact j.xF 0 4 h
 refine Ka<|kB h λ j7 d1 h=>j.fL 0 4 (Pb.eD fa.f2) [] λ e8 k1 _ b3 j=>?_;refine j.fN 7 (sZ 5 (r:=by exact sc Z (gJ (g:=e8) Z Ws T T Z (λ h=>b3 h Z) d1)<|eI)) [1,6,9,102] [(0,4)] λ j=>?_;refine j.gX 0 4 (((Pb.eD fa.f2).row (.head _) Z (λ h=>b3 h Z) d1).eD fD.f4) (tp Z) cB [1,6,9] [] (λ j=>Kb ?_);refine Ka<|j.fN 2 eI [1,6,9,103,104] [(0,4)] λ j=>?_;refine kB h λ k3 e9 h=>j.gL 4 0 (fP.any (JN e9)) [1,6,9] [] (λ j=>Kb ?_);refine za ?_;have⟨f9,g0,g3⟩:=bs h;refine ib (λ a w=>∃ M1 Q W X Y A B,Sx (eG.ft w0 G) 119 M M1 [Q,W,X,Y,A,eA B] [(9,dt (a8.1.mods.length:Int))] [(0,4,eJ (iJ bw) A ⟨f9⟩ (.pointer (some ⟨b0,0,none⟩)) [])] a w) ?_ ?_
 .refine Ka ?_
  refine j.fN 2 eI [1,9,106,107] [(0,4)] λ j=>?_;have⟨k4,g4,h⟩:=bs g0;refine j.gL 4 0 (Ys g4) [1,9] [] λ j=>?_;refine j.fN 1 eI [1,9,10] [(0,4)] (λ j=>Kb ?_);refine j.hU eI [1,9,10,110] [(0,4)] λ j=>?_;refine j.cq h (λ h=>?_) λ h=>?_
  .refine Ka ?_
   refine kB h λ k5 g5 h=>j.fN 6 (sZ 3 (r:=by exact sc Z (oK (CN g5))<|sZ 1 (r:=by exact sc Z (Wr Z cI T)<|.nil))) [9,111,112,114,116] [(0,4)] λ j=>?_;refine kB h λ k6 g6 h=>j.gL 4 0 (fP.any (Xl g6)) [9] [] (λ j=>Kb ?_);cases h;exact fz
  cases h;exact fz
 rintro _ _ ⟨_,Q,W,X,Y,A,B,j⟩;have h:=g3;refine j.hU eI [4] [(0,4)] λ j=>?_;exact j.xF 0 4 h
instance aaQ:fT prog 75 1 1:=⟨FL⟩
def scc:Nat->Rec
 | 0=>Rec.no
 | n+1=>⟨Y5 (scc n),Wf (scc n),WP (scc n),Xn (scc n),WO (scc n),QN (scc n),Zl (scc n),ZP (scc n),yU (scc n)⟩
theorem ng:∀ n,(scc n).ok
 | 0=>Rec.LD
 | n+1=>⟨(λ h=>UW (ng n) h),(λ h=>Vd (ng n) h),(λ h=>VE (ng n) h),(λ h=>VD (ng n) h),(λ h=>VC (ng n) h),(λ h=>VB (ng n) h),(λ h=>Ui (ng n) h),(λ h=>Up (ng n) h),(λ h=>Uv (ng n) h)⟩
def YI(R:Rec)(x0:eK)(x1:List Int)(x2:GAct)(x3:Int)(x4:ga):Option (ga×eK×(List Int)):=
 ite (ez .neq x2.kind 3) ((jD x0 x2 x3).bind λ v9=>
 ite ((!v9.2)=true) (some (x4,x0,[(0:Int)]))<|some (x4,v9.1,[(1:Int)]))<|(Jk x0.tree x1 120).bind λ a9=>
(R.spec_importName ({ a9 with warm:=⟨{ x4 with disk:=x0 }⟩ }) x2.name).bind λ a8=>
(fE 8 [a8.1.fin] a8.1.out).bind λ b3=>
 some (a8.1.warm.x,x0,b3)
theorem HY(hR:R.ok){x0 x1 x2 r}(h:YI R x0 x1 x2 x3 x4=some r):lP 4 prog 34 (Ow.box kh) ⟨x4⟩ [dt x0,dt x1,dt x2,dt x3] ⟨r.1⟩ (.eE (fZ [dt r.2.1,dt r.2.2])):=by
 unfold YI at h;refine sF (fn:=f34) 4 2 6 func34 Z Z Z (λ M G _ b0 _ j=>Kc ?_);refine Ka<|j.segA 2 [1,3,5,7] [(4,2)] λ j=>?_;refine j.fB 4 jc [1,3,5,7] [4] λ b3 j=>?_;have j:=j.gn;refine j.fN 1 (sc Z (oA Z (jg (α:=Int) (e:=3)))<|.nil) [1,3,5,7] [(4,2),(10,4)] (λ j=>Kb ?_);refine za<|Kc<|j.iR [1,3,5,7,17] [(4,2),(10,4)] λ j=>?_;refine j.cs h (λ _ h=>?_) λ _ h=>?_
 .refine Kc ?_
  refine Ka ?_;obtain⟨v9,p9,h⟩:=mh h Ix.1;refine j.segA 7 [5,23,24] [(4,2),(10,4)] λ j=>?_;refine j.fB 5 jc [5,23,24] [4,10] λ b7 j=>?_;have j:=j.gn;refine j.eW 12 5 eO.id (tp Z) [5,24] [4,10] λ j=>?_;refine j.segA 1 [5,13] [(4,2),(10,4),(12,5)] (λ j=>Kb ?_);refine za<|Kc<|j.iR [5,26] [(4,2),(10,4),(12,5)] λ j=>?_;refine j.cs h (λ _ h=>?_) λ _ h=>?_
  .refine Kc ?_
   refine Ka<|j.fN 2 (sP 1 (r:=by exact sc Z (wa (opds:=[.const (.int .i64 0)]) Z Z Z (.cons cI .nil))<|.nil)) [27,28] [(4,2),(10,4)] λ j=>?_;refine j.eW 10 4 eO.id (tp Z) [28] [4] λ j=>?_;refine j.segA 1 [11] [(4,2),(10,4)] (λ j=>Kb ?_);exact za<|wp_ret<|zS<|zS<|j.AE (s:=4) 2 lU (pg h)
  refine az ?_;refine za<|Kc<|Ka<|j.fN 2 (sP 1 (r:=by exact sc Z (wa (opds:=[.const (.int .i64 1)]) Z Z Z (.cons cI .nil))<|.nil)) [29,30] [(4,2),(10,4)] λ j=>?_;refine j.eW 10 4 eO.id (tp Z) [30] [4] λ j=>?_;refine j.segA 1 [11] [(4,2),(10,4)] (λ j=>Kb ?_);exact za<|wp_ret<|zS<|j.AE (s:=4) 2 lU (pg h)
 refine az ?_;refine za<|Kc<|Ka<|j.segA 3 [5,7,32,33] [(4,2),(10,4)] λ j=>?_;refine kB h λ b8 a8 h=>j.cN (l:=[.tmp 32,.tmp 33,.const (.int .i64 120)]) 3 (.cons T (.cons T (.cons cI .nil))) (UO a8) [5,7] [4,10] λ j=>?_;have j:=j.gn;refine j.ie (s:=34) 3 [4,10] λ b9 j=>?_;refine j.segA 1 [5,7] [(4,2),(10,4),(14,3)] (λ j=>Kb ?_);refine za<|Kc<|Ka<|j.fN 4 (sc Z (oM Z T)<|
  sc Z (oM Z T)<|
  sc Z (ry Z Z)<|
  sc Z (eV Z Qe U)<|.nil) [5,7,38] [(4,2),(10,4),(14,3),(36,2)] (λ j=>?_)
 refine j.L4 (sb:=14) (tv:=4) 3 2 Z (zt Z) Z Z sL (tp Z) Z Z (λ _ h=>h) (λ _ h=>h) [5,7] Z [10] Z Z Z Z λ _ _ j=>?_;have j:=j.gn;refine Kb<|za<|Kc<|Ka<|j.segC 4 [4,5,7,40,42] [(10,4),(14,3)] λ j=>?_;refine j.gX 14 3 (((Pb.eD fa.f7).kq).eD ki.f1) (tp Z) (tp Z) [4,5,7] [10] (λ j=>Kb ?_);refine za<|Kc<|Ka<|j.segA 3 [4,5,45] [(10,4),(14,3),(43,3)] λ j=>?_;refine kB h λ c8 a9 h=>j.kV (l:=[.tmp 45]) 3 (j.lr (s:=14)) Z Z FU ((j.st.has 43 _ Z).1.trans (j.st.has 14 _ Z).1.symm) (by simp) (.cons T .nil) (hR.spec_importName a9) [4,5] Z [10] Z Z (by decide) λ j=>?_;have j:=j.gn;refine Kb<|za<|Kc<|kB h λ d1 b5 h=>j.fL 14 3 (Pb.eD fa.f4) [10] λ d2 d3 _ b6 j=>?_;refine j.rU (D:=[_,_,_,_,_,_,_,_,_,_,_]) zP 11 [[(5,nS)],[(14,nS)],[(48,1)],[(49,2)],[(50,3),(14,nS)],[(51,4)],[(14,nS)],[(53,6)],[(54,7)],[(55,8),(14,nS)],[(52,5),(56,9),(14,nS)],[(10,nS),(47,0)],[(57,10)]] [4,47,57] [(10,4),(14,3)] (λ _ _ j=>?_) (hs:=rc Z Z (zG Z T)<|
  rc Z Z (oM Z T)<|
  rc Z Z (ry Z Z)<|
  rc Z Z (eV Z FI U)<|
  rc Z Z (gi (sb:=14) (Pb.eD fa.f5) Z T Z)<|
  rc Z Z (RM (opds:=[.tmp 51]) Z uX uZ Z Z (.cons T .nil))<|
  rc Z Z (oM Z T)<|
  rc Z Z (ry Z Z)<|
  rc Z Z (eV Z BD U)<|
  rc Z Z (fS (sb:=14) (.head _) Z Z Z T Z)<|
  rc Z Z (RF Z uQ T (GP (sb:=14) (Pb.eD fa.f4) (.head _) Z (zR Z Z) Z T) b5)<|.nil)
 refine j.store (sb:=10) 4 eO.id Z Z Z lU Z Z (tp Z) Z [4,57] Z [14] Z Z λ _ _ j=>?_;refine j.segA 1 [4,11] [(10,4),(14,3)] (λ j=>Kb ?_);have j:=j.gS (s:=14) 3 [10];refine za<|wp_ret ?_;have j:=j.LG (s:=14) (sb:=4) 3 Z (λ _ h=>h) Z (λ hm=>Sr hm) [11] Z [10] Z Z;exact j.AE (s:=4) 3 lU (pg h)
theorem FT:gb prog 34=true:=by kernel_rfl
def wK(R:Rec)(x0:List GAct)(x1:List Int)(x2:Int)(a8:(List (List Int))×eK×ga×Int):Option (((List (List Int))×eK×ga×Int)⊕(List (List Int))):=
 ite ((ez .lss a8.2.2.2 x0.length)=true) ((eN x0 a8.2.2.2).bind λ b6=>
(YI R a8.2.1 x1 b6 x2 a8.2.2.1).bind λ a9=>
(fE 24 a8.1 [a9.2.2]).bind λ b3=>
(i64 (a8.2.2.2+1)).bind λ b5=>
 some (.inl (b3,a9.2.1,a9.1,b5)))<|some (.inr a8.1)
def Yg(R:Rec)(x0:List GAct)(x1:List Int)(x2:Int)(x3:Int):Option (List (List Int)):=
(Yc x0).bind λ v2=>
(gO ((!v2) == false) (Z5 x1)).bind λ v3=>
(gO (((!v2)||(!v3)) == false) (yo x2 0 4)).bind λ v4=>
(gO ((((!v2)||(!v3))||(!v4)) == false) (yo x3 0 2)).bind λ v5=>
 ite (((((!v2)||(!v3))||(!v4))||(!v5))=true) (some [])<|(WJ).bind λ a8=>
 Option.bind (zE (λ a9=>wK R x0 x1 x2 a9) ([],a8,⟨true,xc,xb,[],x3⟩,0)) λ b3=>
 some b3
theorem VF(hR:R.ok){x1 x2 r}(h:Yg R x0 x1 x2 x3=some r):kY prog 16 [dt x0,dt x1,dt x2,dt x3] 23 r:=by
 unfold Yg at h;refine Fb (fn:=f16) 5 func16 Z (oD Z) Z λ M w0 _ u=>?_;refine u.uo (sc Z (oA Z (jg (α:=List Int) (e:=23)))<|.nil) [0,1,2,3] (λ _ _ u=>Kc ?_);refine Kx h λ v2 p2 v3 p3 h=>Kx h λ v4 p4 v5 p5 h=>u.uo (sP 1 (r:=by exact sc Z (oK (HC.1 p2))<|sP 3 (r:=by exact sg Z Z (λ hg=>oK (HH (gh hg p3)))<|sP 4 (r:=by exact sg Z Z (λ hg=>oK (yK.1 (gh hg p4)))<|sP 4 (r:=by exact sg Z Z (λ hg=>oK (yK.1 (gh hg p5)))<|lF))))) [0,1,2,3,32] λ _ _ u=>?_;refine u.cs h (λ _ h=>?_) λ _ h=>?_
 .refine u.kL (sc Z (oA Z (jg (α:=List Int) (e:=23)))<|.nil) [] [(8,0)] (λ u=>wp_ret (zS ?_))
  exact u.sh 0 (hg:=(λ _ h=>(by cases h))) h
 refine az ?_;refine za<|u.kL (sc Z (xj (α:=List Int) (e:=23) Z)<|lF) [0,1,2,3] [(9,0)] (λ u=>Kc ?_);refine Ka ?_;obtain⟨g4,g5,h⟩:=mh h HQ.1;refine u.segA 1 [0,1,2,3,34] [(9,0)] λ u=>?_;refine u.fB 3 jc [0,1,2,3,34] [9] λ c8 u=>?_;have u:=u.gn;refine u.eW 10 3 eO.id (tp Z) [0,1,2,3] [9] (λ u=>Kb ?_);refine za<|Kc<|Ka<|u.segA 1 [0,1,2,35] [(9,0),(10,3)] λ u=>?_;refine u.lN (ow:=kh) (parts:=[(0,.const (.bool true)),(4,.tmp 35)]) (ns:=[1,3,3,1,1]) (zs:=KX) (x:=(⟨true,xc,xb,[],x3⟩:ga)) 1 [] (FA ⟨by decide,Z⟩ (FA ⟨by decide,ey.len (α:=Int) (eC.cells T (λ s y hs=>u.st.has s y hs))⟩ FN)) ((kh).more (ki.mk (x:=(⟨true,xc,xb,[],x3⟩:ga)) (eC.cells cB (λ s y hs=>u.st.has s y hs)) (jc _ _) ((gr.z Ow.gB) _ _) (Ow.gB _ _) (eC.cells T (λ s y hs=>u.st.has s y hs)) (λ b h1=>(λ h2=>h2.elim))) (λ b=>(λ hb=>hb.elim (λ hb=>hb.elim) (λ hb=>hb.elim)))) [0,1,2] [9,10] (@λ d1 _ _ u=>?_);have u:=u.gs (Gs':=[eA none,d1,eA none,eA (some c8),eA none]);have u:=u.gs (Gs':=[eA none,d1,eA none,eA (some c8),eA none]);refine u.nT 2 1 [0,1,2] [9,10] λ g6 _ _ _ _ u=>?_;have u:=u.gn;refine u.segA 1 [0,1,2] [(9,0),(10,3),(11,2)] (λ u=>Kb ?_);refine za ?_;have⟨d3,d4,d5⟩:=bs h;refine Yo (λ a w=>∃ M1 Q W X Y A,Sx (eG.of w0) 62 M M1 [eA Q,W,X,eA Y,eA A] [] [(9,0,eQ Q 23 d3)] a w) ?_ ?_
 .refine u.iR [0,1,2,12] [(9,0),(10,3),(11,2)] (λ u=>aX ?_)
  have u:=u.fv (s:=11) 2 [9,10];refine Qw d4 (λ a8 a w=>∃ M1 Q W X Y A,Sx (eG.of w0) 62 M M1 [eA Q,W,X,eA Y,eA A] [(0,dt x0),(1,dt x1),(2,dt x2),(12,dt a8.2.2.2)] [(9,0,eQ Q 23 a8.1),(10,3,eY Y 0 a8.2.1),(11,2,eH (Ow.box kh) X ⟨a8.2.2.1⟩)] a w) fx ?_;rintro a8 d6 _ _ ⟨_,Q,W,X,Y,A,u⟩ h b7;refine Kc<|u.iR [0,1,2,12,41] [(9,0),(10,3),(11,2)] λ u=>?_;refine u.cs h (λ _ h=>?_) λ _ h=>?_
  .refine az ?_
   refine za<|Kc<|aX ?_;refine Kc<|u.ie (s:=11) 2 [9,10] λ b5 u=>?_;refine u.rX zP λ b3 _ hz39 u=>?_;refine u.tM 1 1 (u.fg (g:=62)) λ _ u=>?_;refine u.tM 2 0 (u.fg (g:=62)) λ _ u=>?_;refine u.tM 3 12 (u.fg (g:=62)) λ _ u=>?_;refine kB h λ b8 d7 h=>u.Ed (i:=4) Z Z (u.fg (g:=62)) Z mN (tp Z) (tp Z) d7 (next:=@λ a44 u=>?_);refine u.me (i:=5) (u.fg (g:=62)) hz39 (tp Z) λ u=>?_;refine u.tM 6 2 (u.fg (g:=62)) λ _ u=>?_;refine u.tN 7 11 (u.fg (g:=62)) λ _ u=>?_;refine kB h λ a9 d2 h=>yP 1 16383 (λ a w=>∃ M1 Q W X Y A,Sx (eG.of w0) 62 M M1 [eA Q,W,X,eA Y,eA A] [(0,dt x0),(1,dt x1),(2,dt x2),(12,dt a8.2.2.2),(55,dt a9.2.2),(62,gx b3)] [(9,0,eQ Q 23 a8.1),(10,3,eY Y 0 a8.2.1),(13,4,eY A 0 a9.2.1),(11,2,eH (Ow.box kh) X ⟨a9.1⟩)] a w) ?_ λ n121=>?_
   .rintro _ _ ⟨_,Q,W,X,Y,A,u⟩
    refine fp 14 ?_;refine u.segA 1 [0,1,2,12,14,62] [(9,0),(10,3),(11,2),(13,4)] λ u=>?_;refine fC (u.fg (g:=62)) ?_;refine kG ?_;refine za<|Kc<|Ka<|u.segC 1 [0,1,2,12,14,56] [(9,0),(10,3),(11,2)] λ u=>?_;refine u.eW 10 3 eO.id (tp Z) [0,1,2,12,14] [9,11] (λ u=>Kb ?_);refine za<|Ka<|u.segC 3 [0,1,2,12,59] [(9,0),(10,3),(11,2),(57,0)] λ u=>?_;refine kB h λ e0 b9 h=>u.ic 0 yW b9 [0,1,2,12] [10,11] λ e3 u=>?_;have u:=u.gn;refine u.segA 1 [0,1,2,12] [(9,0),(10,3),(11,2)] (λ u=>Kb ?_);refine yI<|za<|kB h λ e4 e5 h=>u.lK [0,1,2,12] [(9,0),(10,3),(11,2)] (λ u=>za ?_);exact fl h
   refine yP 2 8191 (λ a w=>∃ M1 Q W X Y A,Sx (eG.of w0) 62 M M1 [eA Q,W,X,eA Y,eA A] [(0,dt x0),(1,dt x1),(2,dt x2),(12,dt a8.2.2.2),(54,dt a9.2.1),(55,dt a9.2.2),(62,gx b3)] [(9,0,eQ Q 23 a8.1),(10,3,eY Y 0 a8.2.1),(13,4,eY A 0 xc),(11,2,eH (Ow.box kh) X ⟨a9.1⟩)] a w) ?_ λ n113=>?_
   .rintro _ _ ⟨_,Q,W,X,Y,A,u⟩
    refine fp 13 ?_;refine u.eW 13 4 eO.id (tp Z) [0,1,2,12,55,62] [9,10,11] λ u=>?_;exact fQ n121 (u.fg (g:=62))
   refine yP 2 14335 (λ a w=>∃ M1 Q W X Y A,Sx (eG.of w0) 62 M M1 [eA Q,W,X,eA Y,eA A] [(0,dt x0),(1,dt x1),(2,dt x2),(12,dt a8.2.2.2),(44,fZ [dt a9.2.1,dt a9.2.2]),(62,gx b3)] [(9,0,eQ Q 23 a8.1),(10,3,eY Y 0 a8.2.1),(13,4,eY A 0 a9.2.1),(11,2,eH (Ow.box kh) X ⟨a9.1⟩)] a w) ?_ λ n117=>?_
   .rintro _ _ ⟨_,Q,W,X,Y,A,u⟩
    refine fp 11 ?_;refine u.segA 1 [0,1,2,12,55,62] [(9,0),(10,3),(11,2),(13,4)] λ u=>?_;exact fQ n121 (u.fg (g:=62))
   refine yP 3 4095 (λ a w=>∃ M1 Q W X Y A,Sx (eG.of w0) 62 M M1 [eA Q,W,X,eA Y,eA A] [(0,dt x0),(1,dt x1),(2,dt x2),(12,dt a8.2.2.2),(54,dt a9.2.1),(55,dt a9.2.2),(62,gx b3)] [(9,0,eQ Q 23 a8.1),(10,3,eY Y 0 a8.2.1),(11,2,eH (Ow.box kh) X ⟨a9.1⟩)] a w) ?_ λ n98=>?_
   .rintro _ _ ⟨_,Q,W,X,Y,A,u⟩
    refine fp 12 ?_;refine u.fB 4 jc [0,1,2,12,54,55,62] [9,10,11] λ e6 u=>?_;exact fQ n113 (u.gn.fg (g:=62))
   refine yP 3 6143 (λ a w=>∃ M1 Q W X Y A,Sx (eG.of w0) 62 M M1 [eA Q,W,X,eA Y,eA A] [(0,dt x0),(1,dt x1),(2,dt x2),(12,dt a8.2.2.2),(54,dt a9.2.1),(44,fZ [dt a9.2.1,dt a9.2.2]),(62,gx b3)] [(9,0,eQ Q 23 a8.1),(10,3,eY Y 0 a8.2.1),(13,4,eY A 0 xc),(11,2,eH (Ow.box kh) X ⟨a9.1⟩)] a w) ?_ λ n102=>?_
   .rintro _ _ ⟨_,Q,W,X,Y,A,u⟩
    refine iU 11 13 ?_ ?_
    .refine u.segA 1 [0,1,2,12,54,55,62] [(9,0),(10,3),(11,2),(13,4)] λ u=>?_
     exact fQ n113 (u.fg (g:=62))
    .refine u.eW 13 4 eO.id (tp Z) [0,1,2,12,44,62] [9,10,11] λ u=>?_
     exact fQ n117 (u.fg (g:=62))
   refine yP 3 7167 (λ a w=>∃ M1 Q W X Y A,Sx (eG.of w0) 62 M M1 [eA Q,W,X,eA Y,eA A] [(0,dt x0),(1,dt x1),(2,dt x2),(12,dt a8.2.2.2),(55,dt a9.2.2),(44,fZ [dt a9.2.1,dt a9.2.2]),(62,gx b3)] [(9,0,eQ Q 23 a8.1),(10,3,eY Y 0 a8.2.1),(13,4,eY A 0 xc),(11,2,eH (Ow.box kh) X ⟨a9.1⟩)] a w) ?_ λ n107=>?_
   .rintro _ _ ⟨_,Q,W,X,Y,A,u⟩
    refine fp 10 ?_;refine u.segA 1 [0,1,2,12,54,55,62] [(9,0),(10,3),(11,2),(13,4)] λ u=>?_;exact fQ n113 (u.fg (g:=62))
   refine yP 4 2047 (λ a w=>∃ M1 Q W X Y A,Sx (eG.of w0) 62 M M1 [eA Q,W,X,eA Y,eA A] [(0,dt x0),(1,dt x1),(2,dt x2),(12,dt a8.2.2.2),(54,dt a9.2.1),(44,fZ [dt a9.2.1,dt a9.2.2]),(62,gx b3)] [(9,0,eQ Q 23 a8.1),(10,3,eY Y 0 a8.2.1),(11,2,eH (Ow.box kh) X ⟨a9.1⟩)] a w) ?_ λ n89=>?_
   .rintro _ _ ⟨_,Q,W,X,Y,A,u⟩
    refine iU 11 12 ?_ ?_
    .refine u.segA 1 [0,1,2,12,54,55,62] [(9,0),(10,3),(11,2)] λ u=>?_
     exact fQ n98 (u.fg (g:=62))
    .refine u.fB 4 jc [0,1,2,12,44,54,62] [9,10,11] λ e7 u=>?_
     exact fQ n102 (u.gn.fg (g:=62))
   refine yP 4 3071 (λ a w=>∃ M1 Q W X Y A,Sx (eG.of w0) 62 M M1 [eA Q,W,X,eA Y,eA A] [(0,dt x0),(1,dt x1),(2,dt x2),(12,dt a8.2.2.2),(55,dt a9.2.2),(44,fZ [dt a9.2.1,dt a9.2.2]),(62,gx b3)] [(9,0,eQ Q 23 a8.1),(10,3,eY Y 0 a8.2.1),(11,2,eH (Ow.box kh) X ⟨a9.1⟩)] a w) ?_ λ n91=>?_
   .rintro _ _ ⟨_,Q,W,X,Y,A,u⟩
    refine iU 10 12 ?_ ?_
    .refine u.segA 1 [0,1,2,12,54,55,62] [(9,0),(10,3),(11,2)] λ u=>?_
     exact fQ n98 (u.fg (g:=62))
    .refine u.fB 4 jc [0,1,2,12,44,55,62] [9,10,11] λ e8 u=>?_
     exact fQ n107 (u.gn.fg (g:=62))
   refine yP 4 5119 (λ a w=>∃ M1 Q W X Y A,Sx (eG.of w0) 62 M M1 [eA Q,W,X,eA Y,eA A] [(0,dt x0),(1,dt x1),(2,dt x2),(12,dt a8.2.2.2),(44,fZ [dt a9.2.1,dt a9.2.2]),(62,gx b3)] [(9,0,eQ Q 23 a8.1),(10,3,eY Y 0 a8.2.1),(13,4,eY A 0 xc),(11,2,eH (Ow.box kh) X ⟨a9.1⟩)] a w) ?_ λ n95=>?_
   .rintro _ _ ⟨_,Q,W,X,Y,A,u⟩
    refine iU 10 11 ?_ ?_
    .refine u.segA 1 [0,1,2,12,44,54,62] [(9,0),(10,3),(11,2),(13,4)] λ u=>?_
     exact fQ n102 (u.fg (g:=62))
    .refine u.segA 1 [0,1,2,12,44,55,62] [(9,0),(10,3),(11,2),(13,4)] λ u=>?_
     exact fQ n107 (u.fg (g:=62))
   refine yP 5 1023 (λ a w=>∃ M1 Q W X Y A,Sx (eG.of w0) 62 M M1 [eA Q,W,X,eA Y,eA A] [(0,dt x0),(1,dt x1),(2,dt x2),(12,dt a8.2.2.2),(44,fZ [dt a9.2.1,dt a9.2.2]),(62,gx b3)] [(9,0,eQ Q 23 a8.1),(10,3,eY Y 0 a8.2.1),(11,2,eH (Ow.box kh) X ⟨a9.1⟩)] a w) ?_ λ n80=>?_
   .rintro _ _ ⟨_,Q,W,X,Y,A,u⟩
    refine Er (i:=10) (j:=11) (k:=12) Z Z Z ?_ ?_ ?_
    .refine u.segA 1 [0,1,2,12,44,54,62] [(9,0),(10,3),(11,2)] λ u=>?_
     exact fQ n89 (u.fg (g:=62))
    .refine u.segA 1 [0,1,2,12,44,55,62] [(9,0),(10,3),(11,2)] λ u=>?_
     exact fQ n91 (u.fg (g:=62))
    .refine u.fB 4 jc [0,1,2,12,44,62] [9,10,11] λ e9 u=>?_
     exact fQ n95 (u.gn.fg (g:=62))
   refine yP 5 4607 (λ a w=>∃ M1 Q W X Y A,Sx (eG.of w0) 62 M M1 [eA Q,W,X,eA Y,eA A] [(0,dt x0),(1,dt x1),(2,dt x2),(12,dt a8.2.2.2),(53,fZ [dt a9.2.1,dt a9.2.2]),(62,gx b3)] [(9,0,eQ Q 23 a8.1),(10,3,eY Y 0 a8.2.1),(13,4,eY A 0 xc),(11,2,eH (Ow.box kh) X ⟨a9.1⟩)] a w) ?_ λ n84=>?_
   .rintro _ _ ⟨_,Q,W,X,Y,A,u⟩
    refine fp 9 ?_;refine u.segA 1 [0,1,2,12,44,62] [(9,0),(10,3),(11,2),(13,4)] λ u=>?_;exact fQ n95 (u.fg (g:=62))
   refine yP 6 511 (λ a w=>∃ M1 Q W X Y A,Sx (eG.of w0) 62 M M1 [eA Q,W,X,eA Y,eA A] [(0,dt x0),(1,dt x1),(2,dt x2),(12,dt a8.2.2.2),(53,fZ [dt a9.2.1,dt a9.2.2]),(62,gx b3)] [(9,0,eQ Q 23 a8.1),(10,3,eY Y 0 a8.2.1),(11,2,eH (Ow.box kh) X ⟨a9.1⟩)] a w) ?_ λ n73=>?_
   .rintro _ _ ⟨_,Q,W,X,Y,A,u⟩
    refine iU 9 12 ?_ ?_
    .refine u.segA 1 [0,1,2,12,44,62] [(9,0),(10,3),(11,2)] λ u=>?_
     exact fQ n80 (u.fg (g:=62))
    .refine u.fB 4 jc [0,1,2,12,53,62] [9,10,11] λ f9 u=>?_
     exact fQ n84 (u.gn.fg (g:=62))
   refine yP 6 4351 (λ a w=>∃ M1 Q W X Y A,Sx (eG.of w0) 62 M M1 [eA Q,W,X,eA Y,eA A] [(0,dt x0),(1,dt x1),(2,dt x2),(12,dt a8.2.2.2),(45,dt a8.2.1),(46,dt x1),(50,dt b8),(51,dt x2),(52,fk (.pointer (some ⟨b5,0,none⟩))),(62,gx b3)] [(9,0,eQ Q 23 a8.1),(10,3,eY Y 0 a8.2.1),(13,4,eY A 0 xc),(11,2,eJ (Ow.box kh) X ⟨a8.2.2.1⟩ (.pointer (some ⟨b5,0,none⟩)) [])] a w) ?_ λ n77=>?_
   .rintro _ _ ⟨_,Q,W,X,Y,A,u⟩
    refine fp 8 ?_;refine u.tR (l:=[.tmp 45,.tmp 46,.tmp 50,.tmp 51]) 4 2 (u.lr (s:=11)) Z Z Z FT ((u.st.has 52 _ Z).trans (u.st.has 11 _ Z).1.symm) (by simp) (.cons T (.cons T (.cons T (.cons T .nil)))) (HY hR d2) [0,1,2,12,62] Z [9,10,13] Z Z (by decide) λ _ _ _ _ u=>?_;have u:=u.gn;have u:=u.fv (s:=11) 2 [9,10,13];exact fQ n84 (u.fg (g:=62))
   refine yP 7 255 (λ a w=>∃ M1 Q W X Y A,Sx (eG.of w0) 62 M M1 [eA Q,W,X,eA Y,eA A] [(0,dt x0),(1,dt x1),(2,dt x2),(12,dt a8.2.2.2),(45,dt a8.2.1),(46,dt x1),(50,dt b8),(51,dt x2),(52,fk (.pointer (some ⟨b5,0,none⟩))),(62,gx b3)] [(9,0,eQ Q 23 a8.1),(10,3,eY Y 0 a8.2.1),(11,2,eJ (Ow.box kh) X ⟨a8.2.2.1⟩ (.pointer (some ⟨b5,0,none⟩)) [])] a w) ?_ λ n65=>?_
   .rintro _ _ ⟨_,Q,W,X,Y,A,u⟩
    refine iU 8 12 ?_ ?_
    .refine u.tR (l:=[.tmp 45,.tmp 46,.tmp 50,.tmp 51]) 4 2 (u.lr (s:=11)) Z Z Z FT ((u.st.has 52 _ Z).trans (u.st.has 11 _ Z).1.symm) (by simp) (.cons T (.cons T (.cons T (.cons T .nil)))) (HY hR d2) [0,1,2,12,62] Z [9,10] Z Z (by decide) λ _ _ _ _ u=>?_
     have u:=u.gn;have u:=u.fv (s:=11) 2 [9,10];exact fQ n73 (u.fg (g:=62))
    .refine u.fB 4 jc [0,1,2,12,45,46,50,51,52,62] [9,10,11] λ g0 u=>?_
     exact fQ n77 (u.gn.fg (g:=62))
   refine yP 7 4350 (λ a w=>∃ M1 Q W X Y A,Sx (eG.of w0) 62 M M1 [eA Q,W,X,eA Y,eA A] [(0,dt x0),(1,dt x1),(2,dt x2),(12,dt a8.2.2.2),(46,dt x1),(50,dt b8),(51,dt x2),(52,fk (.pointer (some ⟨b5,0,none⟩))),(62,gx b3)] [(9,0,eQ Q 23 a8.1),(10,3,eY Y 0 a8.2.1),(13,4,eY A 0 xc),(11,2,eJ (Ow.box kh) X ⟨a8.2.2.1⟩ (.pointer (some ⟨b5,0,none⟩)) [])] a w) ?_ λ n69=>?_
   .rintro _ _ ⟨_,Q,W,X,Y,A,u⟩
    refine fp 0 ?_;refine u.segC 1 [0,1,2,12,45,46,50,51,52,62] [(9,0),(10,3),(11,2),(13,4)] λ u=>?_;exact fQ n77 (u.fg (g:=62))
   refine iU 0 12 ?_ ?_
   .refine u.segC 1 [0,1,2,12,45,46,50,51,52,62] [(9,0),(10,3),(11,2)] λ u=>?_
    exact fQ n65 (u.fg (g:=62))
   .refine u.fB 4 jc [0,1,2,12,46,50,51,52,62] [9,10,11] λ g3 u=>?_
    exact fQ n69 (u.gn.fg (g:=62))
  refine ch (yv (yv (xX ?_)));refine za ?_;cases lo h b7;exact fx
 rintro _ _ ⟨_,Q,W,X,Y,A,u⟩;have h:=d5;refine u.iR [] [(8,0)] (λ u=>wp_ret ?_);exact u.sh 0 h
theorem OT:iH prog 27 47 9 112=true:=by kernel_rfl
theorem Pj:lL prog 33=true:=by kernel_rfl
theorem ON:Bf prog 3 5=true:=by kernel_rfl
theorem OO:Bh prog 40 9=true:=by kernel_rfl
theorem PC:gb prog 42=true:=by kernel_rfl
theorem FR:gb prog 20=true:=by kernel_rfl
instance aaq:fT prog 45 0 0:=⟨rS⟩
instance aar:fT prog 45 1 1:=⟨BG⟩
instance aas:fT prog 45 2 2:=⟨BH⟩
instance aat:fT prog 45 3 3:=⟨BI⟩
instance aaw:fT prog 45 4 4:=⟨sJ⟩
instance aaz:fT prog 47 0 0:=⟨BJ⟩
instance aaA:fT prog 47 2 7:=⟨BK⟩
instance aaB:fT prog 47 3 8:=⟨BL⟩
def XZ(x0:Stmt)(x1:Int):Option Int:=
(i64 (x1 - x0.module.l.length)).bind λ v2=>
 ite (ez .lss v2 0) (some (-1))<|(i64 (v2 - x0.name.l.length)).bind λ v9=>
 ite (ez .lss v9 0) (some (-1))<|some v9
instance:fY prog 140 dt dt dt XZ:=⟨@λ x0 x1 r h=>by
 refine fe 0 func140 λ M _ _ j=>?_;refine j.z1 λ j=>?_;refine kB h λ v2 p2 h=>j.z1 λ j=>?_;refine j.zc h (λ j h=>?_) λ j h=>?_
 .exact j.ze h
 refine kB h λ v9 p9 h=>j.z1 λ j=>?_;refine j.zc h (λ j h=>?_) λ j h=>?_
 .exact j.ze h
 exact j.ze h⟩
def Zr(x0:List Stmt)(a8:Int×Int):Option ((Int×Int)⊕(Int⊕Int)):=
 ite ((ez .lss a8.2 x0.length)=true) ((eN x0 a8.2).bind λ b3=>
(XZ b3 a8.1).bind λ a9=>
 ite (ez .lss a9 0) (some (.inr (.inr (-1))))<|(i64 (a8.2+1)).bind λ b5=>
 some (.inl (a9,b5)))<|some (.inr (.inl a8.1))
def Xo(x0:List Stmt)(x1:Int):Option Int:=
(i64 (x1 - x0.length)).bind λ v2=>
 ite (ez .lss v2 0) (some (-1))<|Option.bind (zE (λ a8=>Zr x0 a8) (v2,0)) (Sum.elim (λ b9=>
 some b9) some)
instance:fY prog 90 dt dt dt Xo:=⟨@λ x0 x1 r h=>by
 refine fe 0 func90 λ M w0 _ j=>?_;refine j.z1 λ j=>?_;refine kB h λ v2 p2 h=>j.z1 λ j=>?_;refine j.zc h (λ j h=>?_) λ j h=>?_
 .exact j.ze h
 refine kQ<|za<|j.jb [] (λ b9=>[(1,dt b9)]) h (λ o9 p9 k9=>?_) λ b9 _ _ j h=>?_
 .refine j.z1 λ j=>?_
  refine gk p9 (λ a9 a w=>Sx (eG.of w0) 27 M M [] [(0,dt x0),(1,dt a9.1),(5,dt a9.2)] [] a w) (j.kv [0,1,5]) ?_;rintro a9 b5 _ _ j h a8;refine j.zc h (λ j h=>?_) λ j h=>?_
  .have⟨b6,b7,h⟩:=bs h
   refine kB h λ b8 c8 h=>j.z1 λ j=>?_;refine j.zc h (λ j h=>?_) λ j h=>?_
   .exact j.ze (jo (lo h a8) k9)
   exact kB h λ d1 d2 h=>j.zn [] h
  exact fU (lo h a8)
 exact j.ze h⟩
def X2(x0:File)(x1:Int):Option Int:=
(i64 (x1 - x0.pkg.l.length)).bind λ v2=>
 ite (ez .lss v2 0) (some (-1))<|(i64 (v2 - x0.name.l.length)).bind λ v9=>
 ite (ez .lss v9 0) (some (-1))<|(Xo x0.body v9).bind λ a8=>
 ite (ez .lss a8 0) (some (-1))<|some a8
instance:fY prog 57 dt dt dt X2:=⟨@λ x0 x1 r h=>by
 refine fe 0 func57 λ M _ _ j=>?_;refine j.z1 λ j=>?_;refine kB h λ v2 p2 h=>j.z1 λ j=>?_;refine j.zc h (λ j h=>?_) λ j h=>?_
 .exact j.ze h
 refine kB h λ v9 p9 h=>j.z1 λ j=>?_;refine j.zc h (λ j h=>?_) λ j h=>?_
 .exact j.ze h
 refine kB h λ a8 a9 h=>j.z1 λ j=>?_;refine j.zc h (λ j h=>?_) λ j h=>?_
 .exact j.ze h
 exact j.ze h⟩
def WQ(x0:GAct)(x1:Int):Option Int:=
(X2 x0.file x1).bind λ v2=>
 ite (ez .lss v2 0) (some (-1))<|(i64 (v2 - x0.name.l.length)).bind λ v9=>
 ite (ez .lss v9 0) (some (-1))<|some v9
instance:fY prog 29 dt dt dt WQ:=⟨@λ x0 x1 r h=>by
 refine fe 0 func29 λ M _ _ j=>?_;refine j.z1 λ j=>?_;refine kB h λ v2 p2 h=>j.z1 λ j=>?_;refine j.zc h (λ j h=>?_) λ j h=>?_
 .exact j.ze h
 refine kB h λ v9 p9 h=>j.z1 λ j=>?_;refine j.zc h (λ j h=>?_) λ j h=>?_
 .exact j.ze h
 exact j.ze h⟩
def Yh(x0:List GAct)(a8:Int×Int):Option ((Int×Int)⊕(Int⊕Int)):=
 ite ((ez .lss a8.2 x0.length)=true) ((eN x0 a8.2).bind λ b3=>
(WQ b3 a8.1).bind λ a9=>
 ite (ez .lss a9 0) (some (.inr (.inr (-1))))<|(i64 (a8.2+1)).bind λ b5=>
 some (.inl (a9,b5)))<|some (.inr (.inl a8.1))
def X3(x0:List GAct)(x1:Int):Option Int:=
(i64 (x1 - x0.length)).bind λ v2=>
 ite (ez .lss v2 0) (some (-1))<|Option.bind (zE (λ a8=>Yh x0 a8) (v2,0)) (Sum.elim (λ b9=>
 some b9) some)
instance IE:fY prog 9 dt dt dt X3:=⟨@λ x0 x1 r h=>by
 refine fe 0 func9 λ M w0 _ j=>?_;refine j.z1 λ j=>?_;refine kB h λ v2 p2 h=>j.z1 λ j=>?_;refine j.zc h (λ j h=>?_) λ j h=>?_
 .exact j.ze h
 refine kQ<|za<|j.jb [] (λ b9=>[(1,dt b9)]) h (λ o9 p9 k9=>?_) λ b9 _ _ j h=>?_
 .refine j.z1 λ j=>?_
  refine gk p9 (λ a9 a w=>Sx (eG.of w0) 27 M M [] [(0,dt x0),(1,dt a9.1),(5,dt a9.2)] [] a w) (j.kv [0,1,5]) ?_;rintro a9 b5 _ _ j h a8;refine j.zc h (λ j h=>?_) λ j h=>?_
  .have⟨b6,b7,h⟩:=bs h
   refine kB h λ b8 c8 h=>j.z1 λ j=>?_;refine j.zc h (λ j h=>?_) λ j h=>?_
   .exact j.ze (jo (lo h a8) k9)
   exact kB h λ d1 d2 h=>j.zn [] h
  exact fU (lo h a8)
 exact j.ze h⟩
def X4(x0:Stmt):Option Stmt:=
 some ({ { { { { td with kind:=x0.kind } with module:=x0.module } with level:=x0.level } with name:=x0.name } with value:=x0.value })
instance IF:gC prog 153 dt dt X4:=⟨@λ x0 r h=>by
 refine fe 2 func153 λ M _ _ j=>?_;refine Ka<|j.zg 1 λ j=>?_;refine j.fB 0 nQ [1] [] (λ b3 j=>Kb ?_);refine Ka<|j.fB 1 nQ [1] [2] (λ b5 j=>Kb ?_);refine Ka<|j.zh 3 [(2,0),(3,1),(6,1)] λ j=>?_;refine j.eW 3 1 Stmt.LW (tp Z) [1] [2] (λ j=>Kb ?_);refine Ka<|j.zh 3 [(2,0),(3,1),(9,1)] λ j=>?_;refine j.eW 3 1 Stmt.D6 (tp Z) [1] [2] (λ j=>Kb ?_);refine Ka<|j.zh 3 [(2,0),(3,1),(12,1)] λ j=>?_;refine j.eW 3 1 Stmt.LX (tp Z) [1] [2] (λ j=>Kb ?_);refine Ka<|j.zh 3 [(2,0),(3,1),(15,1)] λ j=>?_;refine j.eW 3 1 Stmt.sj (tp Z) [1] [2] (λ j=>Kb ?_);refine Ka<|j.zh 3 [(2,0),(3,1),(18,1)] λ j=>?_;refine j.eW 3 1 Stmt.sk (tp Z) [] [2] (λ j=>Kb ?_);refine Ka<|j.zh 1 [(2,0)] λ j=>?_;refine j.eW 2 0 eO.id (tp Z) [] [] (λ j=>Kb ?_);exact j.yB h⟩
def jU(x0:List Stmt)(a8:(List Stmt)×Int):Option (((List Stmt)×Int)⊕(List Stmt)):=
 ite ((ez .lss a8.2 x0.length)=true) ((eN x0 a8.2).bind λ a9=>
(X4 a9).bind λ b3=>
(eN a8.1 a8.2).bind λ b7=>
(mi a8.1 a8.2 b3).bind λ b5=>
(i64 (a8.2+1)).bind λ b6=>
 some (.inl (b5,b6)))<|some (.inr a8.1)
def WR(x0:List Stmt):Option (List Stmt):=
(mv 5 56 x0.length td).bind λ v5=>
 Option.bind (zE (λ a8=>jU x0 a8) (v5,0)) λ o8=>
 some o8
theorem VH{x0 r}(h:WR x0=some r):kY prog 109 [dt x0] 109 r:=by
 refine om 1 func109 λ M w0 _ j=>?_;refine j.z1 (λ j=>?_) (hs:=sc Z (oA Z (jg (α:=Stmt) (e:=109)))<|.nil);refine Ka<|j.zg 2 λ j=>?_;refine kB h λ v5 p5 h=>j.make 0 Z Z By FY nQ Z (gl Z) p5 [0] Z [] Z Z λ g4 _ _ _ j=>?_;refine j.zh 1 [(3,0)] (λ j=>Kb ?_);refine za<|j.kJ 1 [] (λ _=>[]) (λ o8 q=>[(3,0,eQ (q 0) 109 o8)]) h (λ o8 p8=>?_) λ o8 q8 _ _ _ j h=>?_
 .refine j.zo [(3,0)] λ j=>?_
  refine gk p8 (λ a8 a w=>∃ M1 Q,Sx (eG.of w0) 23 M M1 [eA Q] [(0,dt x0),(4,dt a8.2)] [(3,0,eQ Q 109 a8.1)] a w) fx ?_;rintro a8 b5 _ _ ⟨_,Q,j⟩ h b3;refine j.zd [(3,0)] h (λ j h=>?_) λ j h=>?_
  .refine Ka ?_
   refine Kx h λ b9 c8 d1 b6 h=>kB h λ d2 b7 h=>j.zh 8 [(3,0),(21,0)] (λ j=>?_) (hs:=sZ 6 (r:=by exact sc Z (oK (IF.1 b6))<|sc Z (oC Z rj T T b7)<|.nil));refine kB h λ d3 b8 h=>j.storeT (sb:=3) 0 (tp Z) b8 [0,4] [] (λ _ _ j=>Kb ?_);exact kB h λ d4 d5 h=>j.zn [(3,0)] h
  cases lo h b3;exact fz
 exact j.zl 0 h
def qD(x0:List Int)(a8:(List Int)×Int):Option (((List Int)×Int)⊕(List Int)):=
 ite ((ez .lss a8.2 x0.length)=true) ((eN x0 a8.2).bind λ a9=>
(eN a8.1 a8.2).bind λ b6=>
(mi a8.1 a8.2 a9).bind λ b3=>
(i64 (a8.2+1)).bind λ b5=>
 some (.inl (b3,b5)))<|some (.inr a8.1)
def qj(x0:List Int):Option (List Int):=
(mv 1 8 x0.length iZ).bind λ v5=>
 Option.bind (zE (λ a8=>qD x0 a8) (v5,0)) λ o8=>
 some o8
theorem JB{x0 r}(h:qj x0=some r):kY prog 12 [dt x0] 3 r:=by
 refine om 1 func12 λ M w0 _ j=>?_;refine j.z1 (λ j=>?_) (hs:=sc Z (oA Z (jg (α:=Int) (e:=3)))<|.nil);refine Ka<|j.zg 2 λ j=>?_;refine kB h λ v5 p5 h=>j.make 0 Z Z uQ PU qf Z (gl Z) p5 [0] Z [] Z Z λ g4 _ _ _ j=>?_;refine j.zh 1 [(3,0)] (λ j=>Kb ?_);refine za<|j.kJ 1 [] (λ _=>[]) (λ o8 q=>[(3,0,eQ (q 0) 3 o8)]) h (λ o8 p8=>?_) λ o8 q8 _ _ _ j h=>?_
 .refine j.zo [(3,0)] λ j=>?_
  refine gk p8 (λ a8 a w=>∃ M1 Q,Sx (eG.of w0) 22 M M1 [eA Q] [(0,dt x0),(4,dt a8.2)] [(3,0,eQ Q 3 a8.1)] a w) fx ?_;rintro a8 b5 _ _ ⟨_,Q,j⟩ h b3;refine j.zd [(3,0)] h (λ j h=>?_) λ j h=>?_
  .refine Ka ?_
   refine Kx h λ b8 b9 c8 b6 h=>j.zh 7 [(3,0),(20,0)] (λ j=>?_) (hs:=sZ 6 (r:=by exact sc Z (oC Z uX T T b6)<|.nil));refine kB h λ d1 b7 h=>j.storeT (sb:=3) 0 (tp Z) b7 [0,4] [] (λ _ _ j=>Kb ?_);exact kB h λ d2 d3 h=>j.zn [(3,0)] h
  cases lo h b3;exact fz
 exact j.zl 0 h
def JC(x0:File):Option File:=
(WR x0.body).bind λ a8=>
 some ⟨x0.root,x0.pkg,x0.name,x0.init,x0.stamp,a8⟩
theorem P6{x0 r}(h:JC x0=some r):iF prog 65 [dt x0] (.ow (gF (Ow.row 109 (Ow.eE (α:=Stmt)))) r):=by
 refine mW (fn:=f65) 3 func65 Z Z (λ M _ _ j=>gj ?_);refine Ka<|j.zg 1 λ j=>?_;refine j.gZ (ow:=(gF (Ow.row 109 (Ow.eE (α:=Stmt))))) 1 (gF.z Ow.gB) [1] [] (λ b2 _ _ _ j=>Kb ?_);refine Ka<|j.gZ (ow:=(gF (Ow.row 109 (Ow.eE (α:=Stmt))))) 2 (gF.z Ow.gB) [1] [2] (λ b3 _ _ _ j=>Kb ?_);refine Ka<|j.zh 3 [(2,1),(3,2)] (λ j=>?_) (hs:=sZ 2 (r:=by exact sc Z (eV Z rS U)<|.nil));refine j.gX 3 2 (Pb.eD gF.f0) (tp Z) (tp Z) [1] [2] (λ j=>Kb ?_);refine Ka<|j.zh 3 [(2,1),(3,2)] (λ j=>?_) (hs:=sZ 2 (r:=by exact sc Z (eV Z BG U)<|.nil));refine j.gX 3 2 (Pb.eD gF.f1) (tp Z) (tp Z) [1] [2] (λ j=>Kb ?_);refine Ka<|j.zh 3 [(2,1),(3,2)] (λ j=>?_) (hs:=sZ 2 (r:=by exact sc Z (eV Z BH U)<|.nil));refine j.gX 3 2 (Pb.eD gF.f2) (tp Z) (tp Z) [1] [2] (λ j=>Kb ?_);refine Ka<|j.zh 3 [(2,1),(3,2)] (λ j=>?_) (hs:=sZ 2 (r:=by exact sc Z (eV Z BI U)<|.nil));refine j.gX 3 2 (Pb.eD gF.f3) (tp Z) (tp Z) [1] [2] (λ j=>Kb ?_);refine Ka<|j.zh 3 [(2,1),(3,2)] (λ j=>?_) (hs:=sZ 2 (r:=by exact sc Z (eV Z sJ U)<|.nil));refine j.gX 3 2 (Pb.eD gF.f4) (tp Z) (tp Z) [1] [2] (λ j=>Kb ?_);refine Ka<|j.zh 2 [(2,1),(3,2)] λ j=>?_;refine kB h λ a9 a8 h=>j.cN (l:=[.tmp 20]) 0 (.cons T .nil) (VH a8).n [] [2,3] λ j=>?_;refine j.zh 1 [(2,1),(3,2),(21,0)] (λ j=>?_) (hs:=sc Z (eV Z uU U)<|.nil);refine j.iS (sb:=3) (tv:=21) 2 0 (Pb.eD gF.f5) (tp Z) [] [2] (λ j=>Kb ?_);refine Ka<|j.nr (sb:=3) 2 [] [2] λ j=>?_;refine j.iS (sb:=2) (tv:=23) 1 2 Pb (zt Z) [] [] (λ j=>Kb ?_);exact j.ui 1 h
def Qf(x0:GAct):Option GAct:=
(JC x0.file).bind λ v8=>
 some ⟨x0.kind,v8,x0.index,x0.name⟩
theorem P5{x0 r}(h:Qf x0=some r):iF prog 35 [dt x0] (.ow (hY (gF (Ow.row 109 (Ow.eE (α:=Stmt))))) r):=by
 refine mW (fn:=f35) 3 func35 Z Z (λ M _ _ j=>gj ?_);refine Ka<|j.zg 1 λ j=>?_;refine j.gZ (ow:=(hY (gF (Ow.row 109 (Ow.eE (α:=Stmt)))))) 1 (hY.z (gF.z Ow.gB)) [1] [] (λ b2 _ _ _ j=>Kb ?_);refine Ka<|j.gZ (ow:=(hY (gF (Ow.row 109 (Ow.eE (α:=Stmt)))))) 2 (hY.z (gF.z Ow.gB)) [1] [2] (λ b3 _ _ _ j=>Kb ?_);refine Ka<|j.zh 3 [(2,1),(3,2)] (λ j=>?_) (hs:=sZ 2 (r:=by exact sc Z (eV Z BJ U)<|.nil));refine j.gX 3 2 (Pb.eD hY.f0) (tp Z) (tp Z) [1] [2] (λ j=>Kb ?_);refine Ka<|j.zh 2 [(2,1),(3,2)] λ j=>?_;refine kB h λ v8 p8 h=>j.cN (l:=[.tmp 8]) 0 (.cons T .nil) (P6 p8) [1] [2,3] λ j=>?_;refine j.zh 1 [(2,1),(3,2),(9,0)] (λ j=>?_) (hs:=sc Z (eV Z pM U)<|.nil);refine j.iS (sb:=3) (tv:=9) 2 0 (Pb.eD hY.f1) (tp Z) [1] [2] (λ j=>Kb ?_);refine Ka<|j.zh 3 [(2,1),(3,2)] (λ j=>?_) (hs:=sZ 2 (r:=by exact sc Z (eV Z BK U)<|.nil));refine j.gX 3 2 (Pb.eD hY.f2) (tp Z) (tp Z) [1] [2] (λ j=>Kb ?_);refine Ka<|j.zh 3 [(2,1),(3,2)] (λ j=>?_) (hs:=sZ 2 (r:=by exact sc Z (eV Z BL U)<|.nil));refine j.gX 3 2 (Pb.eD hY.f3) (tp Z) (tp Z) [] [2] (λ j=>Kb ?_);refine Ka<|j.nr (sb:=3) 2 [] [2] λ j=>?_;refine j.iS (sb:=2) (tv:=17) 1 2 Pb (zt Z) [] [] (λ j=>Kb ?_);exact j.ui 1 h
def qE(x0:List GAct)(a8:(List GAct)×Int):Option (((List GAct)×Int)⊕(List GAct)):=
 ite ((ez .lss a8.2 x0.length)=true) ((eN x0 a8.2).bind λ a9=>
(Qf a9).bind λ b3=>
(eN a8.1 a8.2).bind λ b6=>
(i64 (a8.2+1)).bind λ b5=>
 some (.inl ((a8.1.set a8.2.toNat b3),b5)))<|some (.inr a8.1)
def ZE(x0:List GAct):Option (List GAct):=
(mv 9 112 x0.length tb).bind λ v4=>
 Option.bind (zE (λ a8=>qE x0 a8) (v4,0)) λ o8=>
 some o8
theorem JD{r}(h:ZE x0=some r):iF prog 11 [dt x0] (.ow (Ow.row 47 (hY (gF (Ow.row 109 (Ow.eE (α:=Stmt)))))) r):=by
 refine mW (fn:=f11) 2 func11 Z Z (λ M w0 _ j=>gj ?_);refine j.uh (sc Z (oA Z (wg (α:=GAct)))<|.nil) [0] (λ _ _ j=>Ka ?_);refine j.segA 2 [0,6] [] λ j=>?_;refine kB h λ v4 p4 h=>j.LB (ow:=(hY (gF (Ow.row 109 (Ow.eE (α:=Stmt)))))) 0 Z Z OT PW (hY.z (gF.z Ow.gB)) Z p4 [0] Z [] Z Z λ _ _ _ _ j=>?_;refine j.iQ (s:=7) 0 [] λ g6 A6 _ hA6 j=>?_;refine j.segA 1 [0] [(3,0)] (λ j=>Kb ?_);refine za ?_;have⟨o8,p8,k8⟩:=bs h;refine ib (λ a w=>∃ M1 Q R,Sx (eG.of w0) 23 M M1 [Q,R] [] [(3,0,eH (Ow.row 47 (hY (gF (Ow.row 109 (Ow.eE (α:=Stmt)))))) Q o8)] a w) ?_ ?_
 .refine j.lK [0,4] [(3,0)] λ j=>?_
  have j:=j.fv (s:=3) 0 [];refine gk p8 (λ a9 a w=>∃ M1 Q R,Sx (eG.of w0) 23 M M1 [Q,R] [(0,dt x0),(4,dt a9.2)] [(3,0,eH (Ow.row 47 (hY (gF (Ow.row 109 (Ow.eE (α:=Stmt)))))) Q a9.1)] a w) fx ?_;rintro a9 b7 _ _ ⟨_,Q,R,j⟩ h b5;refine j.lK [0,4,11] [(3,0)] λ j=>?_;refine j.cq h (λ h=>?_) λ h=>?_
  .refine Ka ?_
   refine kB h λ c8 d1 h=>j.iQ (s:=3) 0 [] λ d2 d3 _ a8 j=>?_;refine j.segA 6 [0,4,15,19] [(3,0),(14,0)] λ j=>?_;refine kB h λ d4 b8 h=>j.cN (l:=[.tmp 19]) 1 (.cons T .nil) (P5 b8) [0,4,15] [3,14] λ j=>?_;refine kB h λ d5 b6 h=>j.fN 1 (sc Z (kk Z mN Z T a8 b6)<|.nil) [0,4,21] [(3,0),(14,0),(20,1)] λ j=>?_;refine j.iS (sb:=3) (tv:=20) 0 1 (PV.root.row Z a8 b6) (tp Z) [0,4] [] (λ j=>Kb ?_);refine kB h λ d6 d7 h=>j.lK [0,4] [(3,0)] λ j=>?_;have j:=j.fv (s:=3) 0 [];exact fU h
  cases lo h b5;exact fz
 rintro _ _ ⟨_,Q,R,j⟩;have h:=k8;refine j.iQ (s:=3) 0 [] λ e0 e3 _ b9 j=>?_;refine j.lK [] [(2,0)] λ j=>?_;have j:=j.fv (s:=2) 0 [];exact j.pS 0 h
def X5(x0:Stmt)(x1:Stmt):Option Bool:=
 ite (ez .neq x0.kind x1.kind) (some false)<|ite ((decide (x0.module≠x1.module))=true) (some false)<|ite (ez .neq x0.level x1.level) (some false)<|ite ((decide (x0.name≠x1.name))=true) (some false)<|ite (ez .neq x0.value x1.value) (some false)<|some true
instance:fY prog 165 dt dt dt X5:=⟨@λ x0 x1 r h=>by
 refine fe 0 func165 λ M _ _ j=>?_;refine j.z1 λ j=>?_;refine j.zc h (λ j h=>?_) λ j h=>?_
 .exact j.ze h
 refine j.zc h (λ j h=>?_) λ j h=>?_
 .exact j.ze h
 refine j.zc h (λ j h=>?_) λ j h=>?_
 .exact j.ze h
 refine j.zc h (λ j h=>?_) λ j h=>?_
 .exact j.ze h
 refine j.zc h (λ j h=>?_) λ j h=>?_
 .exact j.ze h
 exact j.ze h⟩
def Zs(x0:List Stmt)(x1:List Stmt)(s8:Int):Option (Int⊕(Unit⊕Bool)):=
 ite ((ez .lss s8 x0.length)=true) ((eN x0 s8).bind λ a8=>
(eN x1 s8).bind λ a9=>
(X5 a8 a9).bind λ b3=>
 ite ((!b3)=true) (some (.inr (.inr false)))<|(i64 (s8+1)).bind λ b5=>
 some (.inl b5))<|some (.inr (.inl ()))
def Xp(x0:List Stmt)(x1:List Stmt):Option Bool:=
 ite ((ez .neq x0.length x1.length)=true) (some false)<|Option.bind (zE (λ s8=>Zs x0 x1 s8) 0) (Sum.elim (λ b6=>
 some true) some)
instance:fY prog 123 dt dt dt Xp:=⟨@λ x0 x1 r h=>by
 refine fe 0 func123 λ M w0 _ j=>?_;refine j.z1 λ j=>?_;refine j.zc h (λ j h=>?_) λ j h=>?_
 .exact j.ze h
 refine kQ<|za<|j.jb [] (λ _=>[]) h (λ o6 p6 k6=>?_) λ b6 _ _ j h=>?_
 .refine j.z1 λ j=>?_
  refine gk p6 (λ s8 a w=>Sx (eG.of w0) 27 M M [] [(0,dt x0),(1,dt x1),(5,dt s8)] [] a w) (j.kv [0,1,5]) ?_;rintro s8 z8 _ _ j h hx8;refine j.zc h (λ j h=>?_) λ j h=>?_
  .have⟨a8,a9,h⟩:=bs h
   refine Kx h λ b3 b5 b7 b8 h=>j.zw λ j=>?_;refine j.cq h (λ h=>?_) λ h=>?_
   .exact j.ze (jo (lo h hx8) k6)
   exact kB h λ b9 c8 h=>j.zn [] h
  exact fU (lo h hx8)
 exact j.ze h⟩
def X6(x0:File)(x1:File):Option Bool:=
 ite (ez .neq x0.root x1.root) (some false)<|ite ((decide (x0.pkg≠x1.pkg))=true) (some false)<|ite ((decide (x0.name≠x1.name))=true) (some false)<|ite ((x0.init != x1.init)=true) (some false)<|ite (ez .neq x0.stamp x1.stamp) (some false)<|(Xp x0.body x1.body).bind λ a8=>
 ite ((!a8)=true) (some false)<|some true
instance:fY prog 74 dt dt dt X6:=⟨@λ x0 x1 r h=>by
 refine fe 0 func74 λ M _ _ j=>?_;refine j.z1 λ j=>?_;refine j.zc h (λ j h=>?_) λ j h=>?_
 .exact j.ze h
 refine j.zc h (λ j h=>?_) λ j h=>?_
 .exact j.ze h
 refine j.zc h (λ j h=>?_) λ j h=>?_
 .exact j.ze h
 refine j.zc h (λ j h=>?_) λ j h=>?_
 .exact j.ze h
 refine j.zc h (λ j h=>?_) λ j h=>?_
 .exact j.ze h
 refine kB h λ a8 a9 h=>j.zc h (λ j h=>?_) λ j h=>?_
 .exact j.ze h
 exact j.ze h⟩
def Yi(x0:List Int)(x1:List Int)(s8:Int):Option (Int⊕(Unit⊕Bool)):=
 ite ((ez .lss s8 x0.length)=true) ((eN x0 s8).bind λ a8=>
(eN x1 s8).bind λ a9=>
 ite (ez .neq a8 a9) (some (.inr (.inr false)))<|(i64 (s8+1)).bind λ b3=>
 some (.inl b3))<|some (.inr (.inl ()))
def ZF(x0:List Int)(x1:List Int):Option Bool:=
 ite ((ez .neq x0.length x1.length)=true) (some false)<|Option.bind (zE (λ s8=>Yi x0 x1 s8) 0) (Sum.elim (λ b6=>
 some true) some)
instance IG:fY prog 15 dt dt dt ZF:=⟨@λ x0 x1 r h=>by
 refine fe 0 func15 λ M w0 _ j=>?_;refine j.z1 λ j=>?_;refine j.zc h (λ j h=>?_) λ j h=>?_
 .exact j.ze h
 refine kQ<|za<|j.jb [] (λ _=>[]) h (λ o6 p6 k6=>?_) λ b6 _ _ j h=>?_
 .refine j.z1 λ j=>?_
  refine gk p6 (λ s8 a w=>Sx (eG.of w0) 26 M M [] [(0,dt x0),(1,dt x1),(5,dt s8)] [] a w) (j.kv [0,1,5]) ?_;rintro s8 z8 _ _ j h hx8;refine j.zc h (λ j h=>?_) λ j h=>?_
  .have⟨a8,a9,h⟩:=bs h
   refine kB h λ b3 b5 h=>j.zw λ j=>?_;refine j.cq h (λ h=>?_) λ h=>?_
   .exact j.ze (jo (lo h hx8) k6)
   exact kB h λ b7 b8 h=>j.zn [] h
  exact fU (lo h hx8)
 exact j.ze h⟩
def WS(x0:GAct)(x1:GAct):Option Bool:=
 ite (ez .neq x0.kind x1.kind) (some false)<|(X6 x0.file x1.file).bind λ v6=>
 ite ((!v6)=true) (some false)<|ite (ez .neq x0.index x1.index) (some false)<|ite ((decide (x0.name≠x1.name))=true) (some false)<|some true
instance:fY prog 39 dt dt dt WS:=⟨@λ x0 x1 r h=>by
 refine fe 0 func39 λ M _ _ j=>?_;refine j.z1 λ j=>?_;refine j.zc h (λ j h=>?_) λ j h=>?_
 .exact j.ze h
 refine kB h λ v6 p6 h=>j.zc h (λ j h=>?_) λ j h=>?_
 .exact j.ze h
 refine j.zc h (λ j h=>?_) λ j h=>?_
 .exact j.ze h
 refine j.zc h (λ j h=>?_) λ j h=>?_
 .exact j.ze h
 exact j.ze h⟩
def Yj(x0:List GAct)(x1:List GAct)(s8:Int):Option (Int⊕(Unit⊕Bool)):=
 ite ((ez .lss s8 x0.length)=true) ((eN x0 s8).bind λ a8=>
(eN x1 s8).bind λ a9=>
(WS a8 a9).bind λ b3=>
 ite ((!b3)=true) (some (.inr (.inr false)))<|(i64 (s8+1)).bind λ b5=>
 some (.inl b5))<|some (.inr (.inl ()))
def YU(x0:List GAct)(x1:List GAct):Option Bool:=
 ite ((ez .neq x0.length x1.length)=true) (some false)<|Option.bind (zE (λ s8=>Yj x0 x1 s8) 0) (Sum.elim (λ b6=>
 some true) some)
instance IH:fY prog 14 dt dt dt YU:=⟨@λ x0 x1 r h=>by
 refine fe 0 func14 λ M w0 _ j=>?_;refine j.z1 λ j=>?_;refine j.zc h (λ j h=>?_) λ j h=>?_
 .exact j.ze h
 refine kQ<|za<|j.jb [] (λ _=>[]) h (λ o6 p6 k6=>?_) λ b6 _ _ j h=>?_
 .refine j.z1 λ j=>?_
  refine gk p6 (λ s8 a w=>Sx (eG.of w0) 27 M M [] [(0,dt x0),(1,dt x1),(5,dt s8)] [] a w) (j.kv [0,1,5]) ?_;rintro s8 z8 _ _ j h hx8;refine j.zc h (λ j h=>?_) λ j h=>?_
  .have⟨a8,a9,h⟩:=bs h
   refine Kx h λ b3 b5 b7 b8 h=>j.zw λ j=>?_;refine j.cq h (λ h=>?_) λ h=>?_
   .exact j.ze (jo (lo h hx8) k6)
   exact kB h λ b9 c8 h=>j.zn [] h
  exact fU (lo h hx8)
 exact j.ze h⟩
def Zt(x0:List (List Int))(x1:List (List Int))(s8:Int):Option (Int⊕(Unit⊕Bool)):=
 ite ((ez .lss s8 x0.length)=true) ((eN x0 s8).bind λ a8=>
(eN x1 s8).bind λ a9=>
(ZF a8 a9).bind λ b3=>
 ite ((!b3)=true) (some (.inr (.inr false)))<|(i64 (s8+1)).bind λ b5=>
 some (.inl b5))<|some (.inr (.inl ()))
def wL(x0:List (List Int))(x1:List (List Int)):Option Bool:=
 ite ((ez .neq x0.length x1.length)=true) (some false)<|Option.bind (zE (λ s8=>Zt x0 x1 s8) 0) (Sum.elim (λ b6=>
 some true) some)
instance WT:fY prog 18 dt dt dt wL:=⟨@λ x0 x1 r h=>by
 refine fe 0 func18 λ M w0 _ j=>?_;refine j.z1 λ j=>?_;refine j.zc h (λ j h=>?_) λ j h=>?_
 .exact j.ze h
 refine kQ<|za<|j.jb [] (λ _=>[]) h (λ o6 p6 k6=>?_) λ b6 _ _ j h=>?_
 .refine j.z1 λ j=>?_
  refine gk p6 (λ s8 a w=>Sx (eG.of w0) 27 M M [] [(0,dt x0),(1,dt x1),(5,dt s8)] [] a w) (j.kv [0,1,5]) ?_;rintro s8 z8 _ _ j h hx8;refine j.zc h (λ j h=>?_) λ j h=>?_
  .have⟨a8,a9,h⟩:=bs h
   refine Kx h λ b3 b5 b7 b8 h=>j.zw λ j=>?_;refine j.cq h (λ h=>?_) λ h=>?_
   .exact j.ze (jo (lo h hx8) k6)
   exact kB h λ b9 c8 h=>j.zn [] h
  exact fU (lo h hx8)
 exact j.ze h⟩
def xG(s8:Int×Str):Option ((Int×Str)⊕Str):=
 ite (ez .gtr s8.1 0) ((pv s8.1 10).bind λ a8=>
(i64 (48+a8)).bind λ a9=>
(kT (⟨[rv a9]⟩:Str) s8.2).bind λ b3=>
(uH s8.1 10).bind λ b5=>
 some (.inl (b5,b3)))<|some (.inr s8.2)
def xi(x0:Int):Option Str:=
 ite (ez .leq x0 0) (some ⟨[109,48]⟩)<|Option.bind (zE (λ s8=>xG s8) (x0,⟨[]⟩)) λ o7=>
(kT ⟨[109]⟩ o7).bind λ a8=>
 some a8
instance Zb:gC prog 41 dt dt xi:=⟨@λ x0 r h=>by
 refine fe 0 func41 λ M w0 _ j=>?_;refine j.z1 λ j=>?_;refine j.zc h (λ j h=>?_) λ j h=>?_
 .exact j.ze h
 refine j.z1 (λ j=>za ?_);refine j.jm [] (λ o7=>[(3,dt o7)]) h (λ o7 p7=>?_) λ o7 _ _ j h=>?_
 .refine gk p7 (λ s8 a w=>Sx (eG.of w0) 20 M M [] [(0,dt s8.1),(3,dt s8.2)] [] a w) (j.kv [0,3]) ?_
  rintro s8 z8 _ _ j h hx8;refine j.zc h (λ j h=>?_) λ j h=>?_
  .have⟨b3,a8,h⟩:=bs h
   refine Kx h λ b5 b6 b7 b8 h=>j.z1 (λ j=>?_) (hs:=sZ 1 (r:=by exact sc Z (vC Z T cI a8)<|sZ 1 (r:=by exact sc Z (T4 Z ON T)<|sZ 1 (r:=by exact sc Z (T5 Z OO T)<|eI))));exact kB h λ b9 a9 h=>j.zn [] h (hs:=sZ 1 (r:=by exact sc Z (T6 Z T cI a9)<|eI))
  cases lo h hx8;exact fz
 exact kB h λ c8 d1 h=>j.ze h⟩
def wX(s4:(List Stmt)×Int×Int):Option (((List Stmt)×Int×Int)⊕((List Stmt)×Int)):=
 ite ((ez .lss s4.2.2 s4.1.length)=true) ((eN s4.1 s4.2.2).bind λ v9=>
(i64 (s4.2.1+1)).bind λ a8=>
(xi a8).bind λ b6=>
(i64 (a8+1)).bind λ a9=>
(i64 (a9+1)).bind λ b3=>
(xi b3).bind λ b7=>
(i64 (b3+1)).bind λ b5=>
(i64 (b5+1)).bind λ b8=>
(i64 (s4.2.2+1)).bind λ b9=>
 some (.inl ((s4.1.set s4.2.2.toNat ⟨s4.2.1,b6,a9,b7,b5⟩),b8,b9)))<|some (.inr (s4.1,s4.2.1))
def XB(x0:List Stmt)(x1:Int):Option ((List Stmt)×Int):=
 Option.bind (zE (λ s4=>wX s4) (x0,x1,0)) λ o2=>
 some (o2.1,o2.2)
theorem UP{x0 r}(h:XB x0 x1=some r):fP prog 42 (Ow.row 109 (Ow.eE (α:=Stmt))) x0 [dt x1] r.1 (.eE (dt r.2)):=by
 refine uL (fn:=f42) 0 1 func42 Z Z (λ M G w0 g0 A0 c0 _ hA0 j=>gj ?_);refine j.zo [(0,0)] (λ j=>za ?_);have⟨o2,p2,k2⟩:=bs h;refine ib (λ a w=>∃ M1 Q,Sx (eG.ft w0 G) 50 M M1 [Q] [(1,dt o2.2)] [(0,0,eJ (Ow.row 109 (Ow.eE (α:=Stmt))) Q o2.1 (.slice A0 x0.length c0) [])] a w) ?_ ?_
 .refine j.zo [(0,0)] λ j=>?_
  refine gk p2 (λ s4 a w=>∃ M1 Q,Sx (eG.ft w0 G) 50 M M1 [Q] [(1,dt s4.2.1),(5,dt s4.2.2)] [(0,0,eJ (Ow.row 109 (Ow.eE (α:=Stmt))) Q s4.1 (.slice A0 x0.length c0) [])] a w) fx ?_;rintro s4 z4 _ _ ⟨_,Q,j⟩ h hx4;refine j.zd [(0,0)] h (λ j h=>?_) (λ j h=>?_) (hs:=sc Z (oM Z T)<|
    sc Z (oM Z T)<|
    sc Z (nJ Z Pk Z)<|
    sc Z (gU Z T T)<|.nil)
  .refine Ka ?_
   refine kB h λ v9 p9 h=>j.zh 5 [(0,0)] (λ j=>?_) (hs:=sc Z (oM Z T)<|
     sc Z (oM Z T)<|
     sc Z (oM Z T)<|
     sc Z (kk Z rj Z T hA0 p9)<|
     sc Z (eV Z OZ T)<|.nil)
   refine j.kM (sb:=0) 0 ((PV.root.row Z hA0 p9).eD Stmt.z0) (tp Z) (tp Z) [1,5] [] (λ j=>Kb ?_);refine kB h λ b3 b5 h=>j.zo [(0,0)] (λ j=>Ka ?_);refine kB h λ b6 a8 h=>j.zh 6 [(0,0)] (λ j=>?_) (hs:=sc Z (oM Z T)<|
     sc Z (oM Z T)<|
     sc Z (oM Z T)<|
     sc Z (zy (l:=[.tmp 21]) Z (.cons T .nil) (Zb.1 a8))<|
     sc Z (kk Z rj Z T hA0 (xu p9))<|
     sc Z (eV Z O0 T)<|.nil)
   refine j.kM (sb:=0) 0 (((PV.root.row Z hA0 (xu p9)).conv (upd':=λ z=>(s4.1.set s4.2.2.toNat z)) (λ _=>by simp only[bj])).eD Stmt.z1) (tp Z) (tp Z) [1,5] [] (λ j=>Kb ?_);refine kB h λ b7 b8 h=>j.zo [(0,0)] (λ j=>Ka ?_);refine j.zh 5 [(0,0)] (λ j=>?_) (hs:=sc Z (oM Z T)<|
     sc Z (oM Z T)<|
     sc Z (oM Z T)<|
     sc Z (kk Z rj Z T hA0 (xu p9))<|
     sc Z (eV Z O1 T)<|.nil)
   refine j.kM (sb:=0) 0 (((PV.root.row Z hA0 (xu p9)).conv (upd':=λ z=>(s4.1.set s4.2.2.toNat z)) (λ _=>by simp only[bj])).eD Stmt.z2) (tp Z) (tp Z) [1,5] [] (λ j=>Kb ?_);refine kB h λ b9 c8 h=>j.zo [(0,0)] (λ j=>Ka ?_);refine kB h λ d1 a9 h=>j.zh 6 [(0,0)] (λ j=>?_) (hs:=sc Z (oM Z T)<|
     sc Z (oM Z T)<|
     sc Z (oM Z T)<|
     sc Z (zy (l:=[.tmp 36]) Z (.cons T .nil) (Zb.1 a9))<|
     sc Z (kk Z rj Z T hA0 (xu p9))<|
     sc Z (eV Z tK T)<|.nil)
   refine j.kM (sb:=0) 0 (((PV.root.row Z hA0 (xu p9)).conv (upd':=λ z=>(s4.1.set s4.2.2.toNat z)) (λ _=>by simp only[bj])).eD Stmt.z3) (tp Z) (tp Z) [1,5] [] (λ j=>Kb ?_);refine kB h λ d2 d3 h=>j.zo [(0,0)] (λ j=>Ka ?_);refine j.zh 5 [(0,0)] (λ j=>?_) (hs:=sc Z (oM Z T)<|
     sc Z (oM Z T)<|
     sc Z (oM Z T)<|
     sc Z (kk Z rj Z T hA0 (xu p9))<|
     sc Z (eV Z FH T)<|.nil)
   refine j.kM (sb:=0) 0 (((PV.root.row Z hA0 (xu p9)).conv (upd':=λ z=>(s4.1.set s4.2.2.toNat z)) (λ _=>by simp only[bj])).eD Stmt.z4) (tp Z) (tp Z) [1,5] [] (λ j=>Kb ?_);refine kB h λ d4 d5 h=>j.zo [(0,0)] λ j=>?_;exact kB h λ d6 d7 h=>j.zn [(0,0)] h
  cases lo h hx4;exact fz
 rintro _ _ ⟨_,Q,j⟩;have h:=k2;refine j.zo [(0,0)] λ j=>?_;exact j.si (s:=0) 0 h xQ
def jw(s4:(List Int)×Int×Int):Option (((List Int)×Int×Int)⊕((List Int)×Int)):=
 ite ((ez .lss s4.2.2 s4.1.length)=true) ((eN s4.1 s4.2.2).bind λ v9=>
(i64 (s4.2.1+1)).bind λ a8=>
(i64 (s4.2.2+1)).bind λ a9=>
 some (.inl ((s4.1.set s4.2.2.toNat s4.2.1),a8,a9)))<|some (.inr (s4.1,s4.2.1))
def YJ(x0:List Int)(x1:Int):Option ((List Int)×Int):=
 Option.bind (zE (λ s4=>jw s4) (x0,x1,0)) λ o2=>
 some (o2.1,o2.2)
theorem HZ{x0 r}(h:YJ x0 x1=some r):fP prog 20 iV x0 [dt x1] r.1 (.eE (dt r.2)):=by
 refine uL (fn:=f20) 0 1 func20 Z Z (λ M G w0 g0 A0 c0 _ hA0 j=>gj ?_);refine j.zo [(0,0)] (λ j=>za ?_);have⟨o2,p2,k2⟩:=bs h;refine ib (λ a w=>∃ M1 Q,Sx (eG.ft w0 G) 19 M M1 [Q] [(1,dt o2.2)] [(0,0,eJ iV Q o2.1 (.slice A0 x0.length c0) [])] a w) ?_ ?_
 .refine j.zo [(0,0)] λ j=>?_
  refine gk p2 (λ s4 a w=>∃ M1 Q,Sx (eG.ft w0 G) 19 M M1 [Q] [(1,dt s4.2.1),(5,dt s4.2.2)] [(0,0,eJ iV Q s4.1 (.slice A0 x0.length c0) [])] a w) fx ?_;rintro s4 z4 _ _ ⟨_,Q,j⟩ h hx4;refine j.zd [(0,0)] h (λ j h=>?_) (λ j h=>?_) (hs:=sc Z (oM Z T)<|
    sc Z (oM Z T)<|
    sc Z (nJ Z Pg Z)<|
    sc Z (gU Z T T)<|.nil)
  .refine Ka ?_
   refine kB h λ v9 p9 h=>j.zh 4 [(0,0)] (λ j=>?_) (hs:=sc Z (oM Z T)<|
     sc Z (oM Z T)<|
     sc Z (oM Z T)<|
     sc Z (kk Z uX Z T hA0 p9)<|.nil)
   refine j.kM (sb:=0) 0 (PV.root.row Z hA0 p9) (tp Z) (tp Z) [1,5] [] (λ j=>Kb ?_);refine kB h λ a8 a9 h=>j.zo [(0,0)] λ j=>?_;exact kB h λ b3 b5 h=>j.zn [(0,0)] h
  cases lo h hx4;exact fz
 rintro _ _ ⟨_,Q,j⟩;have h:=k2;refine j.zo [(0,0)] λ j=>?_;exact j.si (s:=0) 0 h xQ
def jx(s4:(List GAct)×Int×Int):Option (((List GAct)×Int×Int)⊕((List GAct)×Int)):=
 ite ((ez .lss s4.2.2 s4.1.length)=true) ((eN s4.1 s4.2.2).bind λ v9=>
(i64 (s4.2.1+1)).bind λ a9=>
(i64 (a9+1)).bind λ b3=>
(xi b3).bind λ b9=>
(i64 (b3+1)).bind λ b5=>
(xi b5).bind λ c8=>
(i64 (b5+1)).bind λ b6=>
(pv b6 3).bind λ d1=>
(i64 (b6+1)).bind λ b7=>
(i64 (b7+1)).bind λ d2=>
(XB v9.file.body d2).bind λ a8=>
(i64 (a8.2+1)).bind λ b8=>
(xi b8).bind λ d3=>
(i64 (b8+1)).bind λ d4=>
(i64 (s4.2.2+1)).bind λ d5=>
 some (.inl ((s4.1.set s4.2.2.toNat ⟨s4.2.1,{ ({ ({ ({ ({ {v9.file with root:=a9} with pkg:=b9 }) with name:=c8 }) with init:=ez .eql d1 0 }) with stamp:=b7 }) with body:=a8.1 },a8.2,d3⟩),d4,d5)))<|some (.inr (s4.1,s4.2.1))
def Wg(x0:List GAct)(x1:Int):Option ((List GAct)×Int):=
 Option.bind (zE (λ s4=>jx s4) (x0,x1,0)) λ o2=>
 some (o2.1,o2.2)
theorem Ve{r}(h:Wg x0 x1=some r):fP prog 19 (Ow.row 47 (hY (gF (Ow.row 109 (Ow.eE (α:=Stmt)))))) x0 [dt x1] r.1 (.eE (dt r.2)):=by
 refine uL (fn:=f19) 0 1 func19 Z Z (λ M G w0 g0 A0 c0 _ hA0 j=>gj ?_);refine j.zo [(0,0)] (λ j=>za ?_);have⟨o2,p2,k2⟩:=bs h;refine ib (λ a w=>∃ M1 Q,Sx (eG.ft w0 G) 87 M M1 [Q] [(1,dt o2.2)] [(0,0,eJ (Ow.row 47 (hY (gF (Ow.row 109 (Ow.eE (α:=Stmt)))))) Q o2.1 (.slice A0 x0.length c0) [])] a w) ?_ ?_
 .refine j.zo [(0,0)] λ j=>?_
  refine gk p2 (λ s4 a w=>∃ M1 Q,Sx (eG.ft w0 G) 87 M M1 [Q] [(1,dt s4.2.1),(5,dt s4.2.2)] [(0,0,eJ (Ow.row 47 (hY (gF (Ow.row 109 (Ow.eE (α:=Stmt)))))) Q s4.1 (.slice A0 x0.length c0) [])] a w) fx ?_;rintro s4 z4 _ _ ⟨_,Q,j⟩ h hx4;refine j.zd [(0,0)] h (λ j h=>?_) (λ j h=>?_) (hs:=sc Z (oM Z T)<|
    sc Z (oM Z T)<|
    sc Z (nJ Z Ph Z)<|
    sc Z (gU Z T T)<|.nil)
  .refine Ka ?_
   refine kB h λ v9 p9 h=>j.zh 5 [(0,0)] (λ j=>?_) (hs:=sc Z (oM Z T)<|
     sc Z (oM Z T)<|
     sc Z (oM Z T)<|
     sc Z (kk Z mN Z T hA0 p9)<|
     sc Z (eV Z BJ T)<|.nil)
   refine j.kM (sb:=0) 0 ((PV.root.row Z hA0 p9).eD hY.f0) (tp Z) (tp Z) [1,5] [] (λ j=>Kb ?_);refine kB h λ b8 b9 h=>j.zo [(0,0)] (λ j=>Ka ?_);refine j.zh 6 [(0,0)] (λ j=>?_) (hs:=sc Z (oM Z T)<|
     sc Z (oM Z T)<|
     sc Z (oM Z T)<|
     sc Z (kk Z mN Z T hA0 (xu p9))<|
     sc Z (eV Z pM T)<|
     sc Z (eV Z rS T)<|.nil)
   refine j.kM (sb:=0) 0 ((((PV.root.row Z hA0 (xu p9)).conv (upd':=λ z=>(s4.1.set s4.2.2.toNat z)) (λ _=>by simp only[bj])).eD hY.f1).eD gF.f0) (tp Z) (tp Z) [1,5] [] (λ j=>Kb ?_);refine kB h λ c8 d1 h=>j.zo [(0,0)] (λ j=>Ka ?_);refine kB h λ d2 a8 h=>j.zh 7 [(0,0)] (λ j=>?_) (hs:=sc Z (oM Z T)<|
     sc Z (oM Z T)<|
     sc Z (oM Z T)<|
     sc Z (zy (l:=[.tmp 29]) Z (.cons T .nil) (Zb.1 a8))<|
     sc Z (kk Z mN Z T hA0 (xu p9))<|
     sc Z (eV Z pM T)<|
     sc Z (eV Z BG T)<|.nil)
   refine j.kM (sb:=0) 0 ((((PV.root.row Z hA0 (xu p9)).conv (upd':=λ z=>(s4.1.set s4.2.2.toNat z)) (λ _=>by simp only[bj])).eD hY.f1).eD gF.f1) (tp Z) (tp Z) [1,5] [] (λ j=>Kb ?_);refine kB h λ d3 d4 h=>j.zo [(0,0)] (λ j=>Ka ?_);refine kB h λ d5 a9 h=>j.zh 7 [(0,0)] (λ j=>?_) (hs:=sc Z (oM Z T)<|
     sc Z (oM Z T)<|
     sc Z (oM Z T)<|
     sc Z (zy (l:=[.tmp 38]) Z (.cons T .nil) (Zb.1 a9))<|
     sc Z (kk Z mN Z T hA0 (xu p9))<|
     sc Z (eV Z pM T)<|
     sc Z (eV Z BH T)<|.nil)
   refine j.kM (sb:=0) 0 ((((PV.root.row Z hA0 (xu p9)).conv (upd':=λ z=>(s4.1.set s4.2.2.toNat z)) (λ _=>by simp only[bj])).eD hY.f1).eD gF.f2) (tp Z) (tp Z) [1,5] [] (λ j=>Kb ?_);refine kB h λ d6 d7 h=>j.zo [(0,0)] (λ j=>Ka ?_);refine kB h λ e0 b3 h=>j.zh 8 [(0,0)] (λ j=>?_) (hs:=sc Z (oM Z T)<|
     sc Z (oM Z T)<|
     sc Z (oM Z T)<|
     sc Z (vC Z T cI b3)<|
     sc Z (gU Z T cI)<|
     sc Z (kk Z mN Z T hA0 (xu p9))<|
     sc Z (eV Z pM T)<|
     sc Z (eV Z BI T)<|.nil)
   refine j.kM (sb:=0) 0 ((((PV.root.row Z hA0 (xu p9)).conv (upd':=λ z=>(s4.1.set s4.2.2.toNat z)) (λ _=>by simp only[bj])).eD hY.f1).eD gF.f3) (tp Z) (tp Z) [1,5] [] (λ j=>Kb ?_);refine kB h λ e3 e4 h=>j.zo [(0,0)] (λ j=>Ka ?_);refine j.zh 6 [(0,0)] (λ j=>?_) (hs:=sc Z (oM Z T)<|
     sc Z (oM Z T)<|
     sc Z (oM Z T)<|
     sc Z (kk Z mN Z T hA0 (xu p9))<|
     sc Z (eV Z pM T)<|
     sc Z (eV Z sJ T)<|.nil)
   refine j.kM (sb:=0) 0 ((((PV.root.row Z hA0 (xu p9)).conv (upd':=λ z=>(s4.1.set s4.2.2.toNat z)) (λ _=>by simp only[bj])).eD hY.f1).eD gF.f4) (tp Z) (tp Z) [1,5] [] (λ j=>Kb ?_);refine kB h λ e5 e6 h=>j.zo [(0,0)] (λ j=>Ka ?_);refine j.fL 0 0 ((((PV.root.row Z hA0 (xu p9)).conv (upd':=λ z=>(s4.1.set s4.2.2.toNat z)) (λ _=>by simp only[bj])).eD hY.f1).eD gF.f5) [] λ e7 e8 _ b5 j=>?_;refine j.zh 7 [(0,0)] (λ j=>?_) (hs:=sc Z (oM Z T)<|
     sc Z (oM Z T)<|
     sc Z (kk Z mN Z T hA0 (xu p9))<|
     sc Z (eV Z pM T)<|
     sc Z (eV Z uU T)<|
     sc Z (fS (sb:=0) (.head _) Z Z Z T Z)<|
     sc Z (oM Z T)<|.nil)
   refine kB h λ e9 b6 h=>j.kV (l:=[.tmp 69]) 0 (j.mE (sb:=0) ((((PV.root.row Z hA0 (xu p9)).conv (upd':=λ z=>(s4.1.set s4.2.2.toNat z)) (λ _=>by simp only[bj])).eD hY.f1).eD gF.f5) (.head _) Z (zR Z Z) Z (λ _ h=>h)) Z Z PC (j.st.has 68 _ Z) (by simp) (.cons T .nil) (UP b6) [1,5] Z [] Z Z (by decide) λ j=>?_;refine j.zh 1 [(0,0)] (λ j=>Kb ?_);refine Ka<|j.zh 5 [(0,0)] (λ j=>?_) (hs:=sc Z (oM Z T)<|
     sc Z (oM Z T)<|
     sc Z (oM Z T)<|
     sc Z (kk Z mN Z T hA0 (xu p9))<|
     sc Z (eV Z BK T)<|.nil)
   refine j.kM (sb:=0) 0 (((PV.root.row Z hA0 (xu p9)).conv (upd':=λ z=>(s4.1.set s4.2.2.toNat z)) (λ _=>by simp only[bj])).eD hY.f2) (tp Z) (tp Z) [1,5] [] (λ j=>Kb ?_);refine kB h λ f9 g3 h=>j.zo [(0,0)] (λ j=>Ka ?_);refine kB h λ g4 b7 h=>j.zh 6 [(0,0)] (λ j=>?_) (hs:=sc Z (oM Z T)<|
     sc Z (oM Z T)<|
     sc Z (oM Z T)<|
     sc Z (zy (l:=[.tmp 80]) Z (.cons T .nil) (Zb.1 b7))<|
     sc Z (kk Z mN Z T hA0 (xu p9))<|
     sc Z (eV Z BL T)<|.nil)
   refine j.kM (sb:=0) 0 (((PV.root.row Z hA0 (xu p9)).conv (upd':=λ z=>(s4.1.set s4.2.2.toNat z)) (λ _=>by simp only[bj])).eD hY.f3) (tp Z) (tp Z) [1,5] [] (λ j=>Kb ?_);refine kB h λ g5 g6 h=>j.zo [(0,0)] λ j=>?_;exact kB h λ g7 g8 h=>j.zn [(0,0)] h (hs:=gv)
  cases lo h hx4;exact fz
 rintro _ _ ⟨_,Q,j⟩;have h:=k2;refine j.zo [(0,0)] λ j=>?_;exact j.si (s:=0) 0 h xQ
def wY(s4:(List (List Int))×Int×Int):Option (((List (List Int))×Int×Int)⊕((List (List Int))×Int)):=
 ite ((ez .lss s4.2.2 s4.1.length)=true) ((eN s4.1 s4.2.2).bind λ v9=>
(YJ v9 s4.2.1).bind λ a8=>
(i64 (s4.2.2+1)).bind λ a9=>
 some (.inl ((s4.1.set s4.2.2.toNat a8.1),a8.2,a9)))<|some (.inr (s4.1,s4.2.1))
def Yk(x0:List (List Int))(x1:Int):Option ((List (List Int))×Int):=
 Option.bind (zE (λ s4=>wY s4) (x0,x1,0)) λ o2=>
 some (o2.1,o2.2)
theorem UH{x0 r}(h:Yk x0 x1=some r):fP prog 21 (Ow.row 23 iV) x0 [dt x1] r.1 (.eE (dt r.2)):=by
 refine uL (fn:=f21) 0 1 func21 Z Z (λ M G w0 g0 A0 c0 _ hA0 j=>gj ?_);refine j.zo [(0,0)] (λ j=>za ?_);have⟨o2,p2,k2⟩:=bs h;refine ib (λ a w=>∃ M1 Q,Sx (eG.ft w0 G) 19 M M1 [Q] [(1,dt o2.2)] [(0,0,eJ (Ow.row 23 iV) Q o2.1 (.slice A0 x0.length c0) [])] a w) ?_ ?_
 .refine j.zo [(0,0)] λ j=>?_
  refine gk p2 (λ s4 a w=>∃ M1 Q,Sx (eG.ft w0 G) 19 M M1 [Q] [(1,dt s4.2.1),(5,dt s4.2.2)] [(0,0,eJ (Ow.row 23 iV) Q s4.1 (.slice A0 x0.length c0) [])] a w) fx ?_;rintro s4 z4 _ _ ⟨_,Q,j⟩ h hx4;refine j.zd [(0,0)] h (λ j h=>?_) (λ j h=>?_) (hs:=sc Z (oM Z T)<|
    sc Z (oM Z T)<|
    sc Z (nJ Z Pj Z)<|
    sc Z (gU Z T T)<|.nil)
  .refine Ka ?_
   refine kB h λ v9 p9 h=>j.fL 0 0 (PV.root.row Z hA0 p9) [] λ b3 b5 _ a8 j=>?_;refine j.zh 5 [(0,0)] (λ j=>?_) (hs:=sc Z (oM Z T)<|
     sc Z (oM Z T)<|
     sc Z (kk Z PK Z T hA0 p9)<|
     sc Z (fS (sb:=0) (.head _) Z Z Z T Z)<|
     sc Z (oM Z T)<|.nil)
   refine kB h λ b6 a9 h=>j.kV (l:=[.tmp 16]) 0 (j.mE (sb:=0) (PV.root.row Z hA0 p9) (.head _) Z (zR Z Z) Z (λ _ h=>h)) Z Z FR (j.st.has 15 _ Z) (by simp) (.cons T .nil) (HZ a9) [1,5] Z [] Z Z (by decide) λ j=>?_;refine j.zh 1 [(0,0)] (λ j=>Kb ?_);exact kB h λ b7 b8 h=>j.zn [(0,0)] h
  cases lo h hx4;exact fz
 rintro _ _ ⟨_,Q,j⟩;have h:=k2;refine j.zo [(0,0)] λ j=>?_;exact j.si (s:=0) 0 h xQ
def jy(x0:List Int)(s4:Int×Int):Option ((Int×Int)⊕(Int⊕Int)):=
 ite ((ez .lss s4.2 x0.length)=true) ((eN x0 s4.2).bind λ v9=>
 ite (ez .neq v9 s4.1) (some (.inr (.inr (-1))))<|(i64 (s4.1+1)).bind λ a8=>
(i64 (s4.2+1)).bind λ a9=>
 some (.inl (a8,a9)))<|some (.inr (.inl s4.1))
def YK(x0:List Int)(x1:Int):Option Int:=
 Option.bind (zE (λ s4=>jy x0 s4) (x1,0)) (Sum.elim (λ b2=>
 some b2) some)
instance:fY prog 43 dt dt dt YK:=⟨@λ x0 x1 r h=>by
 refine fe 0 func43 λ M w0 _ j=>?_;refine j.z1 (λ j=>za ?_);refine j.jb [] (λ b2=>[(1,dt b2)]) h (λ o2 p2 k2=>?_) λ b2 _ _ j h=>?_
 .refine j.z1 λ j=>?_
  refine gk p2 (λ s4 a w=>Sx (eG.of w0) 21 M M [] [(0,dt x0),(1,dt s4.1),(5,dt s4.2)] [] a w) (j.kv [0,1,5]) ?_;rintro s4 z4 _ _ j h hx4;refine j.zc h (λ j h=>?_) λ j h=>?_
  .have⟨v9,p9,h⟩:=bs h
   refine j.zc h (λ j h=>?_) λ j h=>?_
   .exact j.ze (jo (lo h hx4) k2)
   refine kB h λ a8 a9 h=>j.z1 λ j=>?_;exact kB h λ b3 b5 h=>j.zn [] h
  exact fU (lo h hx4)
 exact j.ze h⟩
def wZ(x0:List (List Int))(s4:Int×Int):Option ((Int×Int)⊕(Int⊕Int)):=
 ite ((ez .lss s4.2 x0.length)=true) ((eN x0 s4.2).bind λ v9=>
(YK v9 s4.1).bind λ a8=>
 ite (ez .lss a8 0) (some (.inr (.inr (-1))))<|(i64 (s4.2+1)).bind λ a9=>
 some (.inl (a8,a9)))<|some (.inr (.inl s4.1))
def wy(x0:List (List Int))(x1:Int):Option Int:=
 Option.bind (zE (λ s4=>wZ x0 s4) (x1,0)) (Sum.elim (λ b2=>
 some b2) some)
instance Jl:fY prog 22 dt dt dt wy:=⟨@λ x0 x1 r h=>by
 refine fe 0 func22 λ M w0 _ j=>?_;refine j.z1 (λ j=>za ?_);refine j.jb [] (λ b2=>[(1,dt b2)]) h (λ o2 p2 k2=>?_) λ b2 _ _ j h=>?_
 .refine j.z1 λ j=>?_
  refine gk p2 (λ s4 a w=>Sx (eG.of w0) 21 M M [] [(0,dt x0),(1,dt s4.1),(5,dt s4.2)] [] a w) (j.kv [0,1,5]) ?_;rintro s4 z4 _ _ j h hx4;refine j.zc h (λ j h=>?_) λ j h=>?_
  .have⟨v9,p9,h⟩:=bs h
   refine kB h λ a8 a9 h=>j.z1 λ j=>?_;refine j.zc h (λ j h=>?_) λ j h=>?_
   .exact j.ze (jo (lo h hx4) k2)
   exact kB h λ b3 b5 h=>j.zn [] h
  exact fU (lo h hx4)
 exact j.ze h⟩
theorem Pv:gb prog 17=true:=by kernel_rfl
theorem Pw:gb prog 19=true:=by kernel_rfl
theorem Pz:gb prog 21=true:=by kernel_rfl
def qS(R:Rec)(x0:List GAct)(x1:List Int)(x2:Int)(x3:Int):Option Bool:=
 ite ((ez .gtr x1.length 1048576)=true) (some true)<|(X3 x0 1048576).bind λ v7=>
 ite (ez .lss v7 0) (some true)<|(ZE x0).bind λ d1=>
(qj x1).bind λ d2=>
(Yg R d1 d2 x2 x3).bind λ b3=>
(ZE x0).bind λ b5=>
(qj x1).bind λ b6=>
(Z9 R b5 b6 x2 x3).bind λ b7=>
(wL b7 b3).bind λ d3=>
 ite ((!d3)=true) (some false)<|(ZE x0).bind λ d4=>
(YU b5 d4).bind λ d5=>
 ite ((!d5)=true) (some false)<|(qj x1).bind λ d6=>
(ZF b6 d6).bind λ d7=>
 ite ((!d7)=true) (some false)<|(Wg b5 1).bind λ e0=>
(YJ b6 e0.2).bind λ b9=>
(gO (ez .lss b9.2 0 == false) (wL b7 b3)).bind λ e3=>
 ite ((ez .lss b9.2 0||(!e3))=true) (some false)<|(Yk b7 1).bind λ a9=>
(wy a9.1 1).bind λ c8=>
 ite (ez .lss c8 0) (some false)<|ite (ez .neq c8 a9.2) (some false)<|(ZE x0).bind λ e4=>
(qj x1).bind λ e5=>
(Z9 R e4 e5 x2 x3).bind λ e6=>
(wL e6 b3).bind λ b8=>
 ite ((!b8)=true) (some false)<|(wy a9.1 1).bind λ a8=>
 ite (ez .lss a8 0) (some false)<|ite (ez .neq a8 a9.2) (some false)<|some true
theorem Uj(hR:R.ok){x1 x2}(h:qS R x0 x1 x2 x3=some r):Fn prog 4 [dt x0,dt x1,dt x2,dt x3] (dt r):=by
 unfold qS at h;refine Bo (fn:=f4) 3 func4 Z (oD Z) Z λ M _ _ j=>?_;refine j.kK [0,1,2,3] (λ j=>Kc ?_);refine j.kK [0,1,2,3,20] λ j=>?_;refine j.cs h (λ _ h=>?_) λ _ h=>?_
 .refine j.kK [8] (λ j=>wp_ret (zS ?_))
  exact j.ret Z Z h
 refine az ?_;refine za<|j.kK [0,1,2,3,9] λ j=>?_;obtain⟨v7,p7,h⟩:=mh h IE.1;refine j.kK [0,1,2,3,9] (λ j=>Kc ?_);refine j.kK [0,1,2,3,25] λ j=>?_;refine j.cs h (λ _ h=>?_) λ _ h=>?_
 .refine j.kK [8] (λ j=>wp_ret (zS ?_))
  exact j.ret Z Z h
 refine az ?_;refine za<|Kx h λ g3 a9 g4 b3 h=>kB h λ g5 b5 h=>j.uo (sP 1 (r:=by exact sc Z (oK (iF.fn<|JD a9))<|sP 1 (r:=by exact sc Z (zy (l:=[.tmp 28]) Z (.cons T .nil) ((JB b3)).fn)<|sP 2 (r:=by exact sc Z (zy (l:=[.tmp 27,.tmp 29,.tmp 30,.tmp 31]) Z (.cons T (.cons T (.cons T (.cons T .nil)))) ((VF hR b5)).fn)<|lF)))) [0,1,2,3,10] (λ _ _ j=>Kc ?_);refine Ka<|j.segA 1 [0,1,2,3,10,33] [] λ j=>?_;refine kB h λ g6 b6 h=>j.cN (l:=[.tmp 33]) 0 (.cons T .nil) (JD b6) [0,1,2,3,10] [] λ j=>?_;refine j.iQ (s:=34) 0 [] λ g7 g8 _ b7 j=>?_;refine j.segA 1 [0,1,2,3,10] [(11,0)] (λ j=>Kb ?_);refine za<|Kc<|Ka<|j.segA 1 [0,1,2,3,10,35] [(11,0)] λ j=>?_;refine kB h λ g9 b8 h=>j.cN (l:=[.tmp 35]) 1 (.cons T .nil) (JB b8).n [0,1,2,3,10] [11] λ j=>?_;refine j.iQ (s:=36) 1 [11] λ h0 h1 _ b9 j=>?_;refine j.segA 1 [0,1,2,3,10] [(11,0),(12,1)] (λ j=>Kb ?_);refine za<|Kc<|Ka<|j.segA 4 [0,1,2,3,10,39,40] [(11,0),(12,1),(37,0),(38,1)] λ j=>?_;refine kB h λ h2 c8 h=>j.Lc (l:=[.tmp 37,.tmp 38,.tmp 39,.tmp 40]) 2 Z Z Pv j.ob.sub (.cons (nn j.ob 0 T) (.cons (nn j.ob 1 T) (.cons (yG j.ob.sub T) (.cons (yG j.ob.sub T) .nil)))) (HO hR c8) (Fc (Fc N8)) [0,1,2,3,10] Z [11,12] Z Z λ _ _ _ _ j=>?_;refine j.iQ (s:=41) 2 [11,12] λ h3 h4 _ d1 j=>?_;refine j.segA 1 [0,1,2,3,10] [(11,0),(12,1),(13,2)] (λ j=>Kb ?_);refine za<|Kc<|kB h λ h5 d2 h=>j.kL (sc Z (oM Z T)<|
  sc Z (oM Z T)<|
  sc Z (yC (l:=[.tmp 42,.tmp 43]) j.ob.sub Z (.cons (nn j.ob 2 T) (.cons (yG j.ob.sub T) .nil)) (WT.1 d2) jh)<|
  sc Z (ZQ Z T)<|.nil) [0,1,2,3,10,45] [(11,0),(12,1),(13,2)] (λ j=>?_)
 refine j.cs h (λ _ h=>?_) λ _ h=>?_
 .refine j.kK [8] (λ j=>wp_ret (zS ?_))
  exact j.ret Z Z h
 refine az ?_;refine za<|Kc<|Kx h λ h6 d3 h7 d4 h=>j.kL (sc Z (oM Z T)<|
  sc Z (oM Z T)<|
  sc Z (zy (l:=[.tmp 47]) Z (.cons T .nil) (iF.fn<|JD d3))<|
  sc Z (yC (l:=[.tmp 46,.tmp 48]) j.ob.sub Z (.cons (nn j.ob 0 T) (.cons (yG j.ob.sub T) .nil)) (IH.1 d4) jh)<|
  sc Z (ZQ Z T)<|.nil) [0,1,2,3,10,50] [(11,0),(12,1),(13,2)] (λ j=>?_)
 refine j.cs h (λ _ h=>?_) λ _ h=>?_
 .refine j.kK [8] (λ j=>wp_ret (zS ?_))
  exact j.ret Z Z h
 refine az ?_;refine za<|Kc<|Kx h λ h8 d5 h9 d6 h=>j.kL (sc Z (oM Z T)<|
  sc Z (oM Z T)<|
  sc Z (zy (l:=[.tmp 52]) Z (.cons T .nil) ((JB d5)).fn)<|
  sc Z (yC (l:=[.tmp 51,.tmp 53]) j.ob.sub Z (.cons (nn j.ob 1 T) (.cons (yG j.ob.sub T) .nil)) (IG.1 d6) jh)<|
  sc Z (ZQ Z T)<|.nil) [0,1,2,3,10,55] [(11,0),(12,1),(13,2)] (λ j=>?_)
 refine j.cs h (λ _ h=>?_) λ _ h=>?_
 .refine j.kK [8] (λ j=>wp_ret (zS ?_))
  exact j.ret Z Z h
 refine az ?_;refine za<|j.iR [0,1,2,3,10,14] [(11,0),(12,1),(13,2)] (λ j=>Kc ?_);refine Ka<|j.segA 2 [0,1,2,3,10,14,57] [(12,1),(13,2),(56,0)] λ j=>?_;refine kB h λ i0 d7 h=>j.kV (l:=[.tmp 57]) 0 (j.lr (s:=56)) Z Z Pw Z (by simp) (.cons T .nil) (Ve d7) [0,1,2,3,10,14] Z [12,13] Z Z (by decide) λ j=>?_;refine j.segA 1 [0,1,2,3,10,14] [(12,1),(13,2)] (λ j=>Kb ?_);refine za<|Kc<|Ka<|j.segA 2 [0,1,2,3,10,14,60] [(13,2),(59,1)] λ j=>?_;refine kB h λ i3 e0 h=>j.kV (l:=[.tmp 60]) 1 (j.lr (s:=59)) Z Z FR Z (by simp) (.cons T .nil) (HZ e0) [0,1,2,3,10,14] Z [13] Z Z (by decide) λ j=>?_;refine j.segA 1 [0,1,2,3,10,14] [(13,2)] (λ j=>Kb ?_);refine za<|Kc<|kB h λ i4 e3 h=>j.kL (sP 5 (r:=by exact sg Z Z (λ hg=>yC (l:=[.tmp 65,.tmp 66]) j.ob.sub Z (.cons (nn j.ob 2 V) (.cons (yG j.ob.sub V) .nil)) (WT.1 (gh hg e3)) jh)<|lF)) [0,1,2,3,10,69] [(13,2)] λ j=>?_;refine j.cs h (λ _ h=>?_) λ _ h=>?_
 .refine j.kK [8] (λ j=>wp_ret (zS ?_))
  exact j.ret Z Z h
 refine az ?_;refine za<|j.iR [0,1,2,3,10,15] [(13,2)] (λ j=>Kc ?_);refine Ka<|j.segA 2 [0,1,2,3,10,15,71] [(13,2),(70,2)] λ j=>?_;refine kB h λ i5 e4 h=>j.kV (l:=[.tmp 71]) 2 (j.lr (s:=13)) Z Z Pz ((j.st.has 70 _ Z).1.trans (j.st.has 13 _ Z).1.symm) (by simp) (.cons T .nil) (UH e4) [0,1,2,3,10,15] Z [] Z Z (by decide) λ j=>?_;refine j.segA 1 [0,1,2,3,10,15] [(13,2)] (λ j=>Kb ?_);refine za<|j.iR [0,1,2,3,10,15,16] [(13,2)] λ j=>?_;refine kB h λ i6 e5 h=>j.kL (sc Z (oM Z T)<|
  sc Z (oM Z T)<|
  sc Z (yC (l:=[.tmp 73,.tmp 74]) j.ob.sub Z (.cons (nn j.ob 2 T) (.cons (yG j.ob.sub T) .nil)) (Jl.1 e5) xQ)<|
  sc Z (oA Z T)<|.nil) [0,1,2,3,10,15,16] [(13,2)] (λ j=>?_)
 refine Kc<|j.iR [0,1,2,3,10,15,16,77] [(13,2)] λ j=>?_;refine j.cs h (λ _ h=>?_) λ _ h=>?_
 .refine j.kK [8] (λ j=>wp_ret (zS ?_))
  exact j.ret Z Z h
 refine az ?_;refine za<|Kc<|j.iR [0,1,2,3,10,15,80] [(13,2)] λ j=>?_;refine j.cs h (λ _ h=>?_) λ _ h=>?_
 .refine j.kK [8] (λ j=>wp_ret (zS ?_))
  exact j.ret Z Z h
 refine az ?_;refine za<|Kx h λ i7 e6 i8 e7 h=>kB h λ i9 e8 h=>j.kL (sP 1 (r:=by exact sc Z (oK (iF.fn<|JD e6))<|sP 1 (r:=by exact sc Z (zy (l:=[.tmp 83]) Z (.cons T .nil) ((JB e7)).fn)<|sP 2 (r:=by exact sc Z (oK (iF.fn<|HO hR e8))<|lF)))) [10,15,17] [(13,2)] (λ j=>Kc ?_);obtain⟨e9,f9,h⟩:=mh h WT.1;refine j.iR [15,91] [(13,2)] λ j=>?_;refine j.cs h (λ _ h=>?_) λ _ h=>?_
 .refine j.kK [8] (λ j=>wp_ret (zS ?_))
  exact j.ret Z Z h
 refine az ?_;refine za<|j.iR [15,16] [(13,2)] λ j=>?_;refine kB h λ g0 a8 h=>j.uo (sc Z (oM Z T)<|
  sc Z (oM Z T)<|
  sc Z (yC (l:=[.tmp 92,.tmp 93]) j.ob.sub Z (.cons (nn j.ob 2 T) (.cons (yG j.ob.sub T) .nil)) (Jl.1 a8) xQ)<|
  sc Z (oA Z T)<|.nil) [15,16] (λ _ _ j=>?_)
 refine Kc<|j.kK [15,16,96] λ j=>?_;refine j.cs h (λ _ h=>?_) λ _ h=>?_
 .refine j.kK [8] (λ j=>wp_ret (zS ?_))
  exact j.ret Z Z h
 refine az ?_;refine za<|Kc<|j.kK [99] λ j=>?_;refine j.cs h (λ _ h=>?_) λ _ h=>?_
 .refine j.kK [8] (λ j=>wp_ret (zS ?_))
  exact j.ret Z Z h
 refine az ?_;refine za<|j.kK [8] (λ j=>wp_ret ?_);exact j.ret Z Z h
