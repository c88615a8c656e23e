import Derived.Test.YtoomehfflopakaaGreatDoorTN
namespace Go.Proofs.YtoomehfflopakaaGreatDoor
open Go.RowKit Tryz
attribute [local irreducible] OpRel OpdR
set_option maxRecDepth 10000
set_option maxHeartbeats 1600000
variable{x1:Int}{bw:Nat}{r x0:Runner}{x2 x3 x4:Str}
theorem Wo:fldB prog 119 2 2=true:=by kernel_rfl
theorem kT117:tyB prog 117 false 1=true:=by kernel_rfl
theorem X3:slB prog 117 6=true:=by kernel_rfl
theorem kF119_3:fldB prog 119 3 3=true:=by kernel_rfl
instance iF119_2WbC:FldO prog 119 2 2:=⟨Wo⟩
instance iF119_3WbC:FldO prog 119 3 3:=⟨kF119_3⟩
instance iF142_5WbC:FldO prog 142 5 5:=⟨JK⟩
instance iF166_2WbC:FldO prog 166 2 2:=⟨kF166_2⟩
instance iF72_0WbC:FldO prog 72 0 0:=⟨Qe⟩
instance iF72_1WbC:FldO prog 72 1 1:=⟨kF72_1⟩
instance iF72_2WbC:FldO prog 72 2 2:=⟨kF72_2⟩
def WT(x0:Tree)(x1:List Int)(x2:Int):Option Runner:=
some (⟨x0,x1,[],[],[],0,x2,(⟨(⟨false,xB,yZ,[],0⟩:Warmth)⟩:Bx Warmth)⟩:Runner)
theorem zek{x0 x1 x2}(h:WT x0 x1 x2=some r):FnN prog 63 [dt x0,dt x1,dt x2] (.ow (Ow.box (owRunner oMs oEs oIs (Ow.frz (α:=Bx Warmth)))) ⟨r⟩):=by
 refine fnN (fn:=f63) 4 func63 Z Z (λ M _ _ j=>wqw ?_)
 refine j.z1 (λ j=>?_) (hs:=sZ 1 (r:=by exact sc Z (oA Z opd_nilp)<|.nil))
 refine QY<|j.zg 5 (λ j=>?_) (hs:=sZ 3 (r:=by exact sc Z (yf (parts:=[]) (ns:=[1,3,3,1,1]) (zs:=zpWarmth) Z Z (λ w a hl=>by simp) (λ w a hl=>Warmth.parts (x:=(⟨false,xB,yZ,[],0⟩:Warmth)) ⟨Z,trivial⟩ (Zh _ _) (zrFinder _ _) yA ⟨Z,trivial⟩))<|segZ))
 have j:=j.addL (s:=11) (y:=dt (⟨(⟨false,xB,yZ,[],0⟩:Warmth)⟩:Bx Warmth)) (bx_ptr.2 (j.st.has 11 _ Z))
 refine j.bldW (ow:=(owRunner oMs oEs oIs (Ow.frz (α:=Bx Warmth)))) (parts:=[(0,.tmp 7),(1,.tmp 8),(6,.tmp 9),(7,.tmp 11)]) (ns:=[1,1,1,1,1,1,1,1]) (zs:=zpRunner) (x:=(⟨x0,x1,[],[],[],0,x2,(⟨(⟨false,xB,yZ,[],0⟩:Warmth)⟩:Bx Warmth)⟩:Runner)) 3 [] (FA ⟨by decide,Rep.len (α:=Tree) (j.oc T)⟩ (FA ⟨by decide,Rep.len (α:=List Int) (j.oc T)⟩ (FA ⟨by decide,Rep.len (α:=Int) (j.oc T)⟩ (FA ⟨by decide,Rep.len (α:=Bx Warmth) (j.oc T)⟩ FN)))) (((owRunner oMs oEs oIs (Ow.frz (α:=Bx Warmth)))).more (owRunner.mk (x:=(⟨x0,x1,[],[],[],0,x2,(⟨(⟨false,xB,yZ,[],0⟩:Warmth)⟩:Bx Warmth)⟩:Runner)) (g7:=noB) (j.oc T) (j.oc T) (Ow.row_z _ _) (Ow.row_z _ _) (Ow.row_z _ _) ⟨Z,trivial⟩ (j.oc T) (j.oc T) (λ b h1=>(λ h2=>h2.elim (λ h2=>h2.elim) (λ h2=>h2.elim (λ h2=>h2.elim) (λ h2=>h2.elim)))) (λ b h1=>(λ h2=>h2.elim (λ h2=>h2.elim) (λ h2=>h2.elim))) (λ b h1=>(λ h2=>h2.elim))) (λ b=>(λ hb=>hb.elim (λ hb=>hb.elim) (λ hb=>hb.elim (λ hb=>hb.elim) (λ hb=>hb.elim (λ hb=>hb.elim) (λ hb=>hb.elim)))))) [] [] (@λ G3 _ _ j=>?_)
 have j:=j.gs (Gs':=[oneB none,oneB none,oneB none,G3])
 have j:=j.gs (Gs':=[oneB none,oneB none,oneB none,G3])
 refine j.boxW 0 3 [] [] λ b7 _ _ _ _ j=>?_
 refine j.zh 1 [(6,0)] (λ j=>Wz ?_)
 have j:=j.unm (s:=6) 0 []
 exact j.rnO 0 (bx1 h)
def qL(x0:Runner)(x1:Str)(s4:Int):Option (Int⊕(Unit⊕(Runner×Int))):=
if(cmpI .lss s4 (x0.mods.length:Int))=true then((atI x0.mods s4).bind λ a8=>
(gO (decide (a8.name=x1) == true) (atI x0.mods s4)).bind λ a9=>
if(decide (a8.name=x1)&&a9.cached)=true then(some (.inr (.inr (x0,s4))))
else((i64 (s4+(1:Int))).bind λ b3=>
some (.inl b3)))
else(some (.inr (.inl ())))
def wz(x0:Runner)(x1:Str):Option (Runner×Int):=
Option.bind (α:=Unit⊕(Runner×Int)) (zE (λ s4=>qL x0 x1 s4) (0:Int)) (Sum.elim (λ _b2=>
some (x0,(-1:Int))) some)
theorem Z8{x1 r}(h:wz x0 x1=some r):FnS prog 101 (oRun bw) ⟨x0⟩ [dt x1] ⟨r.1⟩ (.frz (dt r.2)):=by
 refine fnSB (fn:=f101) 0 1 func101 Z Z (λ M G w0 b0 _ j=>wqw ?_)
 refine j.zo [(0,0)] (λ j=>za ?_)
 have⟨o2,p2,k2⟩:=bs h
 refine wqj (λ a w=>∃ b2,o2=.inl b2/\(∃ M1 Q,Sx (Frm.chg w0 G) 36 M M1 [Q] [] [(0,0,dnm (oRun bw) Q ⟨x0⟩ (.pointer (some ⟨b0,0,none⟩)) [])] a w)) ?_ ?_
 ·refine j.zo [(0,0)] λ j=>?_
  refine wql p2 (λ s4 a w=>∃ M1 Q,Sx (Frm.chg w0 G) 36 M M1 [Q] [(1,dt x1),(5,dt s4)] [(0,0,dnm (oRun bw) Q ⟨x0⟩ (.pointer (some ⟨b0,0,none⟩)) [])] a w) fx ?_
  rintro s4 z4 _ _ ⟨_,Q,j⟩ hs4 hx4
  have h:qL x0 x1 s4=some z4:=hs4
  unfold qL at h
  refine j.hdA 0 0 (Pb.fld owRunner.f2) [] λ g6 A6 _ hA6 j=>?_
  refine j.zo [(0,0)] (λ j=>?_) (hs:=sZ 5 (r:=by exact sc Z (xLe Z T)<|segZ))
  have j:=j.ncf (s:=0) 0 []
  refine j.cq h (λ h=>?_) λ h=>?_
  ·have⟨b6,b3,h⟩:=bs h
   have⟨b9,b5,h⟩:=bs h
   refine j.hdA 0 0 (Pb.fld owRunner.f2) [] λ b7 c8 _ a8 j=>?_
   refine j.hdR (s:=0) 0 (decide (b6.name=x1) == true) (λ hg=>(Pb.fld owRunner.f2)) [] λ b8 d1 _ a9 j=>?_
   refine j.zo [(0,0)] (λ j=>?_) (hs:=sc Z (oM Z U)<|
     sc Z (xNc Z T)<|
     sc Z (xFa Z Wo T)<|
     sc Z (xLc (sb:=0) (.tail _ (.head _)) Z Z Z T Z)<|
     sc Z (oM Z T)<|
     sc Z (xIa (g:=b7) Z X3 T T Z (λ h=>a8 h Z) b3)<|
     sc Z (xFa Z zbO T)<|
     sc Z (xLf (sb:=0) (((Pb.fld owRunner.f2).row (.tail _ (.head _)) Z (λ h=>a8 h Z) b3).fld owGModR.f0) Z T Z)<|
     sc Z (oM Z T)<|
     sc Z (YD Z T T)<|
     sc Z (oM Z T)<|
     sg Z Z (λ hg=>oM Z U)<|
     sg Z Z (λ hg=>xNc Z V)<|
     sg Z Z (λ hg=>xFa Z Wo V)<|
     sg Z Z (λ hg=>xLc (sb:=0) (.head _) hg Z Z V Z)<|
     sg Z Z (λ hg=>oM Z T)<|
     sg Z Z (λ hg=>xIa (g:=b8) Z X3 V V Z (λ h=>a9 h hg) (gh hg b5))<|
     sg Z Z (λ hg=>xFa Z kF142_3 V)<|
     sg Z Z (λ hg=>xLf (sb:=0) (((Pb.fld owRunner.f2).row (.head _) hg (λ h=>a9 h hg) (gh hg b5)).fld owGModR.f3) Z V Z)<|
     sc Z (xc Z T T)<|.nil)
   have j:=j.ncf (s:=0) 0 []
   refine j.cq h (λ h=>?_) λ h=>?_
   ·refine j.zo [(0,0)] λ j=>?_
    have h:=lo h hx4
    have h:=jo h k2
    exact j.xF 0 0 h
   have⟨d2,d3,h⟩:=bs h
   exact j.zn [(0,0)] h
  have h:=lo h hx4
  exact flz h
 rintro _ _ ⟨b2,rfl,⟨_,Q,j⟩⟩
 have h:=jn k2
 refine j.zo [(0,0)] λ j=>?_
 exact j.xF 0 0 h
def ju(x0:Runner)(x1:Int)(x2:Str):Option Runner:=
(appO 24 x0.log ([(⟨x1,x2⟩:GEvent)]:List GEvent)).bind λ v8=>
some ({ x0 with log:=v8 })
theorem Jm(h:ju x0 x1 x2=some r):FnS prog 102 (oRun bw) ⟨x0⟩ [dt x1,dt x2] ⟨r⟩ .gone:=by
 refine fnSB (fn:=f102) 0 2 func102 Z Z (λ M G _ b0 _ j=>wqw ?_)
 refine QY<|j.hdA 0 0 (Pb.fld owRunner.f3) [] λ g1 A1 _ hA1 j=>?_
 refine j.zh 9 [(0,0)] (λ j=>?_) (hs:=sZ 7 (r:=by exact sc Z (kD197_0_1 Z T T)<|segZ))
 refine j.mvG (s:=10) (sb:=0) 0 1 (Pb.fld owRunner.f3) (.head _) (zT Z Z) [6,14] [] λ j=>?_
 refine j.tipR (s:=10) 1 (by first | (simp;done) | exact oD rfl) [0] λ g5 j=>?_
 have⟨v8,p8,h⟩:=bs h
 refine j.apA 1 yI p8 [6] [0] λ g7 j=>?_
 refine j.zh 2 [(0,0),(15,1)] λ j=>?_
 have j:=j.tipW (s:=15) 1 [0]
 refine j.shA 0 15 0 1 (tp Z) [] [] (λ j=>Wz ?_)
 exact(j.rs0 (s:=0) 0 (bx1 h)).2
def qh(x0:List GAttr)(x1:Str)(s4:Int):Option (Int⊕(Unit⊕Int)):=
if(cmpI .lss s4 (x0.length:Int))=true then((atI x0 s4).bind λ v9=>
if(decide (v9.name=x1))=true then(some (.inr (.inr s4)))
else((i64 (s4+(1:Int))).bind λ a8=>
some (.inl a8)))
else(some (.inr (.inl ())))
def Zl(x0:List GAttr)(x1:Str):Option Int:=
Option.bind (α:=Unit⊕Int) (zE (λ s4=>qh x0 x1 s4) (0:Int)) (Sum.elim (λ _b2=>
some (-1:Int)) some)
theorem W7{x0 x1 r}(h:Zl x0 x1=some r):Fn prog 152 [dt x0,dt x1] (dt r):=by
 refine fq1 0 func152 λ M w0 _ j=>?_
 refine j.z1 (λ j=>za ?_)
 refine j.jb [] (λ _=>[]) h (λ o2 p2 k2=>?_) λ b2 _ _ j h=>?_
 ·refine j.z1 λ j=>?_
  refine wql p2 (λ s4 a w=>Sx (Frm.of w0) 20 M M [] [(0,dt x0),(1,dt x1),(5,dt s4)] [] a w) (j.sel0 [0,1,5]) ?_
  rintro s4 z4 _ _ j hs4 hx4
  have h:qh x0 x1 s4=some z4:=hs4
  unfold qh at h
  refine j.zc h (λ j h=>?_) λ j h=>?_
  ·have⟨v9,p9,h⟩:=bs h
   refine j.zc h (λ j h=>?_) λ j h=>?_
   ·exact j.ze (jo (lo h hx4) k2)
   have⟨a8,a9,h⟩:=bs h
   exact j.zn [] h
  have h:=lo h hx4
  exact flz h
 exact j.ze h
instance:Ct2 prog 152 dt dt dt Zl:=⟨λ h=>W7 h⟩
def wA(x0:Runner)(x1:Int)(x2:Str)(x3:GVal):Option Runner:=
(atI x0.mods x1).bind λ v3=>
(Zl v3.attrs x2).bind λ v5=>
if cmpI .geq v5 0 then((atI x0.mods x1).bind λ a8=>
(atI a8.attrs v5).bind λ b3=>
some ({ x0 with mods:=(x0.mods.set x1.toNat ({ a8 with attrs:=(a8.attrs.set v5.toNat ({ b3 with value:=x3 })) })) }))
else((atI x0.mods x1).bind λ a9=>
(appO 32 a9.attrs ([(⟨x2,x3⟩:GAttr)]:List GAttr)).bind λ b5=>
(atI x0.mods x1).bind λ _b6=>
some ({ x0 with mods:=(x0.mods.set x1.toNat ({ a9 with attrs:=b5 })) }))
theorem Y0{x3}(h:wA x0 x1 x2 x3=some r):FnS prog 107 (oRun bw) ⟨x0⟩ [dt x1,dt x2,dt x3] ⟨r⟩ .gone:=by
 refine fnSB (fn:=f107) 0 3 func107 Z Z (λ M G _ b0 _ y=>wqw ?_)
 refine y.zo [(0,0)] λ y=>?_
 have⟨v3,p3,v5,p5,h⟩:=Ke h
 refine y.hdA 0 0 (Pb.fld owRunner.f2) [] λ g2 A2 _ hA2 y=>?_
 refine y.hdA 0 0 (((Pb.fld owRunner.f2).row (.head _) Z (λ h=>hA2 h Z) p3).fld owGModR.f5) [] λ g4 A4 _ hA4 y=>?_
 refine y.zo [(0,0)] (λ y=>?_) (hs:=sZ 5 (r:=by exact sc Z (xIa (g:=g2) Z X3 T T Z (λ h=>hA2 h Z) p3)<|sZ 3 (r:=by exact sc Z (yV (l:=[.tmp 16,.tmp 17]) y.ob.sub Z (.cons (zaL (sb:=0) y.ob 0 (((Pb.fld owRunner.f2).row (.tail _ (.head _)) Z (λ h=>hA2 h Z) p3).fld owGModR.f5) (.head _) Z (zT Z Z) T Z) (.cons (xf y.ob.sub T) .nil)) (W7 p5) jK)<|segZ)))
 have y:=y.ncf (s:=0) 0 []
 refine y.zd [(0,0)] h (λ y h=>?_) λ y h=>?_
 ·have⟨e0,b6,h⟩:=bs h
  have⟨e3,c8,h⟩:=bs h
  refine y.hdA 0 0 (Pb.fld owRunner.f2) [] λ d1 e4 _ a9 y=>?_
  refine y.hdA 0 0 (((Pb.fld owRunner.f2).row (.head _) Z (λ h=>a9 h Z) b6).fld owGModR.f5) [] λ d2 e5 _ b5 y=>?_
  refine y.zu 12 [(0,0)] (λ y=>?_) (hs:=sw Z (oM Z U)<|sw Z (xNc Z T)<|sw Z (xFa Z Wo T)<|sw Z (xLc (sb:=0) (.tail _ (.head _)) Z Z Z T Z)<|sw Z (oM Z T)<|sw Z (xIa (g:=d1) Z X3 T T Z (λ h=>a9 h Z) b6)<|sw Z (xFa Z JK T)<|sw Z (xLc (sb:=0) (.head _) Z Z Z T Z)<|sw Z (oM Z T)<|sw Z (zH Z T)<|sw Z (xIa (g:=d2) Z zaO T T Z (λ h=>b5 h Z) c8)<|sw Z (xFa Z zdu T)<|.nil)
  refine y.stF (sb:=0) 0 (((((Pb.fld owRunner.f2).row (.tail _ (.head _)) Z (λ h=>a9 h Z) b6).fld owGModR.f5).row (.head _) Z (λ h=>b5 h Z) c8).fld GAttr.z1) (tp Z) (tp Z) [] [] (λ _ y=>Wz ?_)
  exact(y.rs0 (s:=0) 0 (bx1 h)).1
 refine y.hdA 0 0 (Pb.fld owRunner.f2) [] λ b7 d3 d4 a8 y=>?_
 refine y.held (λ w=>w.cell? ⟨b0,2,none⟩=some (.slice d3 (x0.mods.length) d4)) zN λ _ y=>?_
 refine y.tN 0 0 (y.cellS (sb:=0) (.head _)) λ _ y=>?_
 refine y.tk (i:=1) Z Z (by decide +kernel) (by decide +kernel) (by decide +kernel) (λ _ _ _ h=>h) (y.cellS (sb:=0) (.head _)) (yNc Z (y.st.has 33 _ Z)) λ _ y=>?_
 refine y.tk (i:=2) Z Z (by decide +kernel) (by decide +kernel) (by decide +kernel) (λ _ _ _ h=>h) (y.cellS (sb:=0) (.head _)) (yFa Z Wo (y.st.has 34 _ Z)) λ _ y=>?_
 refine y.tk (i:=3) Z Z (by decide +kernel) (by decide +kernel) (by decide +kernel) (λ _ _ _ h=>h) (y.cellS (sb:=0) (.head _)) (yLd Z kT117 (y.st.has 35 _ Z) (λ _ h=>h)) λ _ y=>?_
 refine y.tkN (i:=5) (sb:=0) Z Z (y.cellS (sb:=0) (.head _)) Z Z Z λ _ y=>?_
 refine y.tk (i:=6) Z Z (by decide +kernel) (by decide +kernel) (by decide +kernel) (λ _ _ _ h=>h) (y.cellS (sb:=0) (.head _)) (yNc Z (y.st.has 38 _ Z)) λ _ y=>?_
 refine y.tk (i:=7) Z Z (by decide +kernel) (by decide +kernel) (by decide +kernel) (λ _ _ _ h=>h) (y.cellS (sb:=0) (.head _)) (yFa Z Wo (y.st.has 39 _ Z)) λ _ y=>?_
 refine y.tk (i:=8) Z Z (by decide +kernel) (by decide +kernel) (by decide +kernel) (λ _ _ _ h=>h) (y.cellS (sb:=0) (.head _)) (yLd Z kT117 (y.st.has 40 _ Z) (λ _ h=>h)) λ _ y=>?_
 refine y.tkM (i:=4) (sb:=1) Z Z (y.cellS (sb:=0) (.head _)) Z Z Z Z λ _ y=>?_
 refine y.tM 9 1 (y.cellS (sb:=0) (.head _)) λ _ y=>?_
 refine y.tM 13 2 (y.cellS (sb:=0) (.head _)) λ _ y=>?_
 refine y.mvN (s:=41) (sb:=0) 0 1 (Pb.fld owRunner.f2) (.head _) Z (zT Z Z) Z Z (by simp) (by simp) (by decide) Z (λ _ h=>h) [1,2,7,8,20,33,34,35,36,37,38,39,40,42,46] Z [] Z Z Z Z (by decide) λ _ H34 y=>?_
 have⟨e6,b3,e7,b8,h⟩:=Ke h
 have⟨e8,b9,h⟩:=bs h
 refine y.tkIN (i:=10) (s2:=41) Z Z (λ _ _ _ _ h=>h) (y.hkS (sb:=0)) Z X3 Z Z (tp Z) (λ h=>a8 h Z) b3 λ _ y=>?_
 refine y.tk (i:=11) Z Z (by decide +kernel) (by decide +kernel) (by decide +kernel) (λ _ _ _ h=>h) (y.hkS (sb:=0)) (yFa Z JK (y.st.has 43 _ Z)) λ _ y=>?_
 refine aH2 (i:=12) (j:=14) (by decide +kernel) Z Z ?_ ?_
 ·refine y.hdA 41 1 ((PV.root.row Z (λ h=>a8 h Z) b3).fld owGModR.f5) [0] λ e9 f9 _ d5 y=>?_
  refine y.zh 1 [(0,0),(41,1)] (λ y=>?_) (hs:=sc Z (xLc (sb:=41) (.head _) Z Z Z T Z)<|.nil)
  refine aHN (y.hkS (sb:=0)) ?_
  refine aK1 14 ?_
  refine y.zh 1 [(0,0),(41,1)] λ y=>?_
  refine aHN (y.hkS (sb:=0)) ?_
  refine y.tkB (i:=15) (parts:=[(0,.tmp 46),(1,.tmp 47)]) (ns:=[1,2]) (zs:=zpGAttr) Z Z (y.hkS (sb:=0)) Z Z kB188 kC188 (λ w a hl=>FA ⟨by decide,Rep.len (α:=Str) (OpdR.cells (tp Z) hl)⟩ (FA ⟨by decide,Rep.len (α:=GVal) (OpdR.cells (tp Z) hl)⟩ FN)) (λ w a hl=>GAttr.parts (x:=(⟨x2,x3⟩:GAttr)) (OpdR.cells (tp Z) hl) (OpdR.cells (tp Z) hl)) (λ _ y=>?_)
  refine aK1 16 ?_
  refine y.zh 1 [(0,0),(41,1)] λ y=>?_
  refine aHN (y.hkS (sb:=0)) ?_
  refine aK1 17 ?_
  refine y.mvG (s:=45) (sb:=41) 1 2 ((PV.root.row Z (λ h=>a8 h Z) b3).fld owGModR.f5) (.head _) (zT Z Z) [36,37,49] [0] λ y=>?_
  refine y.tipR (s:=45) 2 (by first | (simp;done) | exact oD rfl) [0,41] λ g0 y=>?_
  refine y.apA 2 yI b8 [36,37] [0,41] λ g3 y=>?_
  refine aHN (y.hkS (sb:=0)) ?_
  refine aK1 18 ?_
  refine y.zh 1 [(0,0),(41,1),(50,2)] (λ y=>?_) (hs:=sc Z (xIa (g:=b7) Z X3 T T Z (λ h=>a8 h Z) b9)<|.nil)
  refine aHN (y.hkS (sb:=0)) ?_
  refine aK1 19 ?_
  refine y.zh 1 [(0,0),(41,1),(50,2)] λ y=>?_
  refine aHN (y.hkS (sb:=0)) ?_
  refine aK1 20 ?_
  have y:=y.tipW (s:=50) 2 [0,41]
  refine y.shA 41 50 1 2 (tp Z) [] [0] λ y=>?_
  refine aHN (y.hkS (sb:=0)) ?_
  refine aK0<|y.stG (s:=41) (sb:=0) 0 1 Z (by simp) (by simp) (by decide) Z Z (λ _ h=>h) (λ _ h=>h) [] Z [] Z Z Z λ _ y=>?_
  exact(y.rs0 (s:=0) 0 (bx1 h)).2
 ·refine y.zh 1 [(0,0),(41,1)] λ y=>?_
  refine aHN (y.hkS (sb:=0)) ?_
  refine y.tkB (i:=15) (parts:=[(0,.tmp 46),(1,.tmp 47)]) (ns:=[1,2]) (zs:=zpGAttr) Z Z (y.hkS (sb:=0)) Z Z kB188 kC188 (λ w a hl=>FA ⟨by decide,Rep.len (α:=Str) (OpdR.cells (tp Z) hl)⟩ (FA ⟨by decide,Rep.len (α:=GVal) (OpdR.cells (tp Z) hl)⟩ FN)) (λ w a hl=>GAttr.parts (x:=(⟨x2,x3⟩:GAttr)) (OpdR.cells (tp Z) hl) (OpdR.cells (tp Z) hl)) (λ _ y=>?_)
  refine aK2 12 16 ?_ ?_
  ·refine y.hdA 41 1 ((PV.root.row Z (λ h=>a8 h Z) b3).fld owGModR.f5) [0] λ g5 g6 _ d6 y=>?_
   refine y.zh 1 [(0,0),(41,1)] (λ y=>?_) (hs:=sc Z (xLc (sb:=41) (.head _) Z Z Z T Z)<|.nil)
   refine aHN (y.hkS (sb:=0)) ?_
   refine aK1 16 ?_
   refine y.zh 1 [(0,0),(41,1)] λ y=>?_
   refine aHN (y.hkS (sb:=0)) ?_
   refine aK1 17 ?_
   refine y.mvG (s:=45) (sb:=41) 1 2 ((PV.root.row Z (λ h=>a8 h Z) b3).fld owGModR.f5) (.head _) (zT Z Z) [36,37,49] [0] λ y=>?_
   refine y.tipR (s:=45) 2 (by first | (simp;done) | exact oD rfl) [0,41] λ g7 y=>?_
   refine y.apA 2 yI b8 [36,37] [0,41] λ g8 y=>?_
   refine aHN (y.hkS (sb:=0)) ?_
   refine aK1 18 ?_
   refine y.zh 1 [(0,0),(41,1),(50,2)] (λ y=>?_) (hs:=sc Z (xIa (g:=b7) Z X3 T T Z (λ h=>a8 h Z) b9)<|.nil)
   refine aHN (y.hkS (sb:=0)) ?_
   refine aK1 19 ?_
   refine y.zh 1 [(0,0),(41,1),(50,2)] λ y=>?_
   refine aHN (y.hkS (sb:=0)) ?_
   refine aK1 20 ?_
   have y:=y.tipW (s:=50) 2 [0,41]
   refine y.shA 41 50 1 2 (tp Z) [] [0] λ y=>?_
   refine aHN (y.hkS (sb:=0)) ?_
   refine aK0<|y.stG (s:=41) (sb:=0) 0 1 Z (by simp) (by simp) (by decide) Z Z (λ _ h=>h) (λ _ h=>h) [] Z [] Z Z Z λ _ y=>?_
   exact(y.rs0 (s:=0) 0 (bx1 h)).2
  ·refine y.zh 1 [(0,0),(41,1)] λ y=>?_
   refine aHN (y.hkS (sb:=0)) ?_
   refine aK1 12 ?_
   refine y.hdA 41 1 ((PV.root.row Z (λ h=>a8 h Z) b3).fld owGModR.f5) [0] λ g9 h0 _ d7 y=>?_
   refine y.zh 1 [(0,0),(41,1)] (λ y=>?_) (hs:=sc Z (xLc (sb:=41) (.head _) Z Z Z T Z)<|.nil)
   refine aHN (y.hkS (sb:=0)) ?_
   refine aK1 17 ?_
   refine y.mvG (s:=45) (sb:=41) 1 2 ((PV.root.row Z (λ h=>a8 h Z) b3).fld owGModR.f5) (.head _) (zT Z Z) [36,37,49] [0] λ y=>?_
   refine y.tipR (s:=45) 2 (by first | (simp;done) | exact oD rfl) [0,41] λ h1 y=>?_
   refine y.apA 2 yI b8 [36,37] [0,41] λ h2 y=>?_
   refine aHN (y.hkS (sb:=0)) ?_
   refine aK1 18 ?_
   refine y.zh 1 [(0,0),(41,1),(50,2)] (λ y=>?_) (hs:=sc Z (xIa (g:=b7) Z X3 T T Z (λ h=>a8 h Z) b9)<|.nil)
   refine aHN (y.hkS (sb:=0)) ?_
   refine aK1 19 ?_
   refine y.zh 1 [(0,0),(41,1),(50,2)] λ y=>?_
   refine aHN (y.hkS (sb:=0)) ?_
   refine aK1 20 ?_
   have y:=y.tipW (s:=50) 2 [0,41]
   refine y.shA 41 50 1 2 (tp Z) [] [0] λ y=>?_
   refine aHN (y.hkS (sb:=0)) ?_
   refine aK0<|y.stG (s:=41) (sb:=0) 0 1 Z (by simp) (by simp) (by decide) Z Z (λ _ h=>h) (λ _ h=>h) [] Z [] Z Z Z λ _ y=>?_
   exact(y.rs0 (s:=0) 0 (bx1 h)).2
def ZW(x0:GMod):Option Str:=
if cmpI .eql x0.kind 1 then((xV x0.name).bind λ v5=>
some v5)
else(some x0.name)
theorem zad{x0 r}(h:ZW x0=some r):Fn prog 208 [dt x0] (dt r):=by
 refine fq1 0 func208 λ M _ _ j=>?_
 refine j.z1 λ j=>?_
 refine j.zc h (λ j h=>?_) λ j h=>?_
 ·have⟨v5,p5,h⟩:=bs h
  exact j.ze h
 exact j.ze h
instance:Ct1 prog 208 dt dt ZW:=⟨λ h=>zad h⟩
def Wp(x0:GVal):Option Int:=
if cmpI .eql x0.kind 1 then(some (-1:Int))
else(some x0.num)
theorem zdC{x0 r}(h:Wp x0=some r):Fn prog 187 [dt x0] (dt r):=by
 refine fq1 0 func187 λ M _ _ j=>?_
 refine j.z1 λ j=>?_
 refine j.zc h (λ j h=>?_) λ j h=>?_
 ·exact j.ze h
 exact j.ze h
instance:Ct1 prog 187 dt dt Wp:=⟨λ h=>zdC h⟩
def jv(x1:Int)(s4:Str×Int):Option ((Str×Int)⊕(Str⊕(Str×Bool))):=
if cmpI .lss s4.2 x1 then(if(decide (s4.1=(⟨[]⟩:Str)))=true then(some (.inr (.inr ((⟨[]⟩:Str),false))))
else((xV s4.1).bind λ a8=>
(i64 (s4.2+(1:Int))).bind λ a9=>
some (.inl (a8,a9))))
else(some (.inr (.inl s4.1)))
def Jn(x0:Str)(x1:Int):Option (Str×Bool):=
Option.bind (α:=Str⊕(Str×Bool)) (zE (λ s4=>jv x1 s4) (x0,(1:Int))) (Sum.elim (λ b2=>
some (b2,decide (b2≠(⟨[]⟩:Str)))) some)
theorem spec_base_w{x0 r}(h:Jn x0 x1=some r):Fn prog 225 [dt x0,dt x1] (dtup [dt r.1,dt r.2]):=by
 refine fq1 0 func225 λ M w0 _ j=>?_
 refine j.z1 (λ j=>za ?_)
 refine j.jb [] (λ b2=>[(0,dt b2)]) h (λ o2 p2 k2=>?_) λ b2 _ _ j h=>?_
 ·refine j.z1 λ j=>?_
  refine wql p2 (λ s4 a w=>Sx (Frm.of w0) 19 M M [] [(0,dt s4.1),(1,dt x1),(6,dt s4.2)] [] a w) (j.sel0 [0,1,6]) ?_
  rintro s4 z4 _ _ j hs4 hx4
  have h:jv x1 s4=some z4:=hs4
  unfold jv at h
  refine j.zc h (λ j h=>?_) λ j h=>?_
  ·refine j.zc h (λ j h=>?_) λ j h=>?_
   ·refine j.z1 λ j=>?_
    have h:=lo h hx4
    have h:=jo h k2
    cases h
    exact j.ret2 (j.frozen (t:=4)) (j.frozen (t:=5)) ⟨Z,Z⟩
   have⟨a8,a9,h⟩:=bs h
   refine j.z1 λ j=>?_
   have⟨b3,b5,h⟩:=bs h
   exact j.zn [] h
  have h:=lo h hx4
  exact flz h
 refine j.z1 λ j=>?_
 cases h
 exact j.ret2 (j.frozen (t:=4)) (j.frozen (t:=5)) ⟨Z,Z⟩
instance:Ct2 prog 225 dt dt (λ r=>dtup [dt r.1,dt r.2]) Jn:=⟨λ h=>spec_base_w h⟩
def Y1(x0:Str)(x1:Int)(x2:Str):Option Str:=
if cmpI .eql x1 0 then(some x2)
else((Jn x0 x1).bind λ v6=>
if(!v6.2)=true then(some (⟨[]⟩:Str))
else(if(decide (x2=(⟨[]⟩:Str)))=true then(some v6.1)
else((xZ v6.1 x2).bind λ a8=>
some a8)))
theorem zbo{x0 r}(h:Y1 x0 x1 x2=some r):Fn prog 207 [dt x0,dt x1,dt x2] (dt r):=by
 refine fq1 0 func207 λ M _ _ j=>?_
 refine j.z1 λ j=>?_
 refine j.zc h (λ j h=>?_) λ j h=>?_
 ·exact j.ze h
 have⟨v6,p6,h⟩:=bs h
 refine j.z1 λ j=>?_
 refine j.zc h (λ j h=>?_) λ j h=>?_
 ·exact j.ze h
 refine j.zc h (λ j h=>?_) λ j h=>?_
 ·exact j.ze h
 have⟨a8,a9,h⟩:=bs h
 exact j.ze h
instance:Ct3 prog 207 dt dt dt dt Y1:=⟨λ h=>zbo h⟩
def W8(x0:Finder)(x1:Disk)(x2:Int)(x3:Str):Option (Finder×(List Str)):=
(qY x0.dirs x2 x3).bind λ v8=>
(YZ x1 x2 x3).bind λ a9=>
(gO (cmpI .geq v8 0 == true) (atI x0.dirs v8)).bind λ b6=>
if(cmpI .geq v8 0&&cmpI .eql b6.stamp a9)=true then((i64 (x0.hits+(1:Int))).bind λ b5=>
(atI x0.dirs v8).bind λ b7=>
some ({ x0 with hits:=(if b5<(1000:Int) then b5 else(1000:Int)) },b7.names))
else((i64 (x0.fills+(1:Int))).bind λ a8=>
(Wn x1.tree x2 x3).bind λ b3=>
Option.bind (α:=Finder) (if cmpI .geq v8 0 then((atI x0.dirs v8).bind λ _c8=>
some ({ x0 with dirs:=(x0.dirs.set v8.toNat (⟨x2,x3,a9,b3⟩:Dir)),fills:=(if a8<(1000:Int) then a8 else(1000:Int)) }))
else(if(cmpI .lss (x0.dirs.length:Int) 20)=true then((appO 56 x0.dirs ([(⟨x2,x3,a9,b3⟩:Dir)]:List Dir)).bind λ b8=>
some ({ x0 with dirs:=b8,fills:=(if a8<(1000:Int) then a8 else(1000:Int)) }))
else(some ({ x0 with fills:=(if a8<(1000:Int) then a8 else(1000:Int)) })))) λ b9=>
some (b9,(⟨x2,x3,a9,b3⟩:Dir).names))
theorem zck{x0 x1 x2 r}(h:W8 x0 x1 x2 x3=some r):FnT prog 205 oFi x0 [dt x1,dt x2,dt x3] (.t2o oFi r.1 (dt r.2)):=by
 refine fnT (fn:=f205) 0 7 func205 Z Z (λ M G w0 _ j=>wqw ?_)
 refine QY<|j.boxW 1 0 [1,2,3] [] λ b1 _ M1 _ _ j=>?_
 refine j.zh 1 [(4,1)] λ j=>?_
 refine j.alcW (ow:=oFi) 5 (owFinder.z Ow.row_z) [2,3,5] [4] λ b4 _ _ _ j=>?_
 refine j.zh 1 [(4,1),(8,5)] (λ j=>?_) (hs:=sc Z (oA Z (wu (α:=Str)))<|.nil)
 have⟨v8,p8,h⟩:=bs h
 refine Wz<|j.hdA 4 1 (Pb.fld owFinder.f0) [8] λ g7 A7 _ hA7 j=>?_
 refine j.zo [(4,1),(8,5)] (λ j=>?_) (hs:=sc Z (xFa Z Qe U)<|sc Z (xLc (sb:=4) (.head _) Z Z Z T Z)<|sZ 2 (r:=by exact sc Z (yV (l:=[.tmp 14,.tmp 15,.tmp 16]) j.ob.sub Z (.cons (zaL (sb:=4) j.ob 1 (Pb.fld owFinder.f0) (.head _) Z (zT Z Z) T Z) (.cons (xf j.ob.sub T) (.cons (xf j.ob.sub T) .nil))) (JL p8) jK)<|segZ))
 have j:=j.ncf (s:=4) 1 [8]
 have⟨c8,e8,h⟩:=bs h
 refine j.zo [(4,1),(8,5)] λ j=>?_
 have⟨e9,b5,h⟩:=bs h
 refine j.hdR (s:=4) 1 (cmpI .geq v8 (0:Int) == true) (λ hg=>(Pb.fld owFinder.f0)) [8] λ d1 f9 _ a8 j=>?_
 refine j.zo [(4,1),(8,5)] (λ j=>?_) (hs:=sZ 3 (r:=by exact sg Z Z (λ hg=>xFa Z Qe U)<|sg Z Z (λ hg=>xLc (sb:=4) (.head _) hg Z Z V Z)<|sZ 1 (r:=by exact sg Z Z (λ hg=>xIa (g:=d1) Z kS66 V V Z (λ h=>a8 h hg) (gh hg b5))<|sZ 1 (r:=by exact sg Z Z (λ hg=>xLf (sb:=4) (((Pb.fld owFinder.f0).row (.head _) hg (λ h=>a8 h hg) (gh hg b5)).fld Dir.z2) Z V Z)<|segZ))))
 have j:=j.ncf (s:=4) 1 [8]
 refine j.cq h (λ h=>?_) λ h=>?_
 ·have⟨b6,g0,h⟩:=bs h
  refine QY<|j.zh 5 [(4,1),(8,5)] (λ j=>?_) (hs:=sc Z (xFa Z kF72_2 U)<|sc Z (xLf (sb:=4) (Pb.fld owFinder.f2) Z T Z)<|sZ 1 (r:=by exact sc Z (xMin Z cI T)<|sc Z (xFa Z kF72_2 U)<|.nil))
  refine j.sfA 4 1 (Pb.fld owFinder.f2) (tp Z) (tp Z) [10] [8] (λ j=>Wz ?_)
  have⟨g3,b7,h⟩:=bs h
  refine j.hdW (s:=4) 1 true (λ _=>Pb) [8] λ cs26 hS26 j=>?_
  refine j.hdA 4 1 (Pb.fld owFinder.f0) [8] λ d2 g4 _ a9 j=>?_
  refine j.lateO (D:=[_,_,_,_,_,_,_,dtrue]) (sb:=8) (s4:=4) 5 1 zN 8 7 [[(4,nS)],[(4,nS)],[(40,1),(4,nS)],[(10,nS)],[(41,2),(42,3)],[(43,4)],[(44,5),(4,nS)],[(8,nS),(39,0)],[(45,6)]] (
   lc Z Z Z (xLw (sb:=4) (.tail _ (.head _)) Z (hS26 Z) Z U Z)<|
   lc Z Z Z (xFa Z Qe U)<|
   lc Z Z Z (xLc (sb:=4) (.head _) Z Z Z T Z)<|
   lc Z Z Z (oM Z T)<|
   lc Z Z Z (xIa (g:=d2) Z kS66 T T Z (λ h=>a9 h Z) b7)<|
   lc Z Z Z (xFa Z zbN T)<|
   lc Z Z Z (xLf (sb:=4) (((((PV.root (x:=(⟨{ x0 with hits:=(if b6<(1000:Int) then b6 else(1000:Int)) }⟩:Bx Finder))).box Z).fld owFinder.f0).row (.head _) Z (λ h=>a9 h Z) b7).fld Dir.z3) Z T Z)<|
   ll Z<|.nil) ⟨.inl Z,⟨.inl Z,⟨.inl Z,⟨.inl Z,⟨.inl Z,⟨.inl Z,⟨.inl Z,⟨.inl Z,trivial⟩⟩⟩⟩⟩⟩⟩⟩ (zt Z) (tp Z) (hS26 Z) (.tail _ (.head _)) [45] [] (λ _ _ _ j=>?_)
  refine j.zh 1 [(8,5)] (λ j=>Wz ?_)
  exact j.rtCt 5 Z kT72 Z Z h
 have⟨b8,g5,h⟩:=bs h
 refine QY<|j.zh 5 [(4,1),(8,5)] (λ j=>?_) (hs:=sc Z (xFa Z kF72_1 U)<|sc Z (xLf (sb:=4) (Pb.fld owFinder.f1) Z T Z)<|sZ 1 (r:=by exact sc Z (xMin Z cI T)<|sc Z (xFa Z kF72_1 U)<|.nil))
 refine j.sfA 4 1 (Pb.fld owFinder.f1) (tp Z) (tp Z) [2,3,5,10,11] [8] (λ j=>Wz ?_)
 have⟨d3,d4,h⟩:=bs h
 refine QY<|j.zh 9 [(4,1),(8,5)] (λ j=>?_) (hs:=sZ 7 (r:=by exact sc Z (zA (l:=[.tmp 55,.tmp 56,.tmp 57]) Z (.cons T (.cons T (.cons T .nil))) ((zfv d4)).fn)<|sc Z (zcd Z T T T T)<|.nil))
 refine j.alA 6 zrDir [10,59] [4,8] λ d5 j=>?_
 refine j.stA 12 6 FldS.id (tp Z) [10] [4,8] (λ j=>Wz ?_)
 refine za ?_
 have⟨d6,d7,e0⟩:=bs h
 refine wqj (λ a w=>∃ M1 Q R W X Y A B,Sx (Frm.chg w0 G) 80 M M1 [Q,R,W,X,Y,A,oneB B] [] [(12,6,dbox B 0 (⟨x2,x3,c8,d3⟩:Dir)),(4,1,dow oBF R ⟨d6⟩),(8,5,dow oBF A ⟨yZ⟩)] a w) ?_ ?_
 ·refine j.zd [(4,1),(8,5),(12,6)] d7 (λ j h=>?_) λ j h=>?_
  ·have⟨g6,b9,h⟩:=bs h
   refine QY<|j.hdA 4 1 (Pb.fld owFinder.f0) [8,12] λ e3 g8 _ b3 j=>?_
   refine j.zh 5 [(4,1),(8,5),(12,6)] (λ j=>?_) (hs:=sc Z (xFa Z Qe U)<|sc Z (xLc (sb:=4) (.head _) Z Z Z T Z)<|sZ 2 (r:=by exact sc Z (xIa (g:=e3) Z kS66 T T Z (λ h=>b3 h Z) b9)<|.nil))
   refine j.sfA 4 1 ((((PV.root (x:=(⟨{ x0 with fills:=(if b8<(1000:Int) then b8 else(1000:Int)) }⟩:Bx Finder))).box Z).fld owFinder.f0).row (.head _) Z (λ h=>b3 h Z) b9) (tp Z) (tp Z) [] [8,12] (λ j=>Wz ?_)
   have j:=j.unm (s:=4) 1 [8,12]
   have j:=j.unm (s:=8) 5 [4,12]
   cases h
   exact fz
  refine j.hdA 4 1 (Pb.fld owFinder.f0) [8,12] λ g9 h0 _ e4 j=>?_
  refine j.zo [(4,1),(8,5),(12,6)] (λ j=>?_) (hs:=sc Z (xFa Z Qe U)<|sc Z (xLc (sb:=4) (.head _) Z Z Z T Z)<|sc Z (xLe Z T)<|segZ)
  have j:=j.ncf (s:=4) 1 [8,12]
  refine j.cq h (λ h=>?_) λ h=>?_
  ·refine QY<|j.hdA 4 1 (Pb.fld owFinder.f0) [8,12] λ h1 h2 _ e5 j=>?_
   refine j.zh 4 [(4,1),(8,5),(12,6)] (λ j=>?_) (hs:=sc Z (xFa Z Qe U)<|sc Z (xLc (sb:=4) (.head _) Z Z Z T Z)<|segZ)
   refine j.mvG (s:=72) (sb:=4) 1 3 (Pb.fld owFinder.f0) (.head _) (zT Z Z) [74] [8,12] @λ e6 H64 j=>?_
   have j:=j.gs (Gs':=[oneB none,e6,oneB none,H64,oneB none,(oneB (some b4)),oneB (some d5)])
   refine j.tipR (s:=72) 3 (by first | (simp;done) | exact oD rfl) [4,8,12] λ h3 j=>?_
   have⟨h4,e7,h⟩:=bs h
   refine j.apA 3 yI e7 [] [4,8,12] λ h5 j=>?_
   refine j.zh 1 [(4,1),(8,5),(12,6),(75,3)] (λ j=>?_) (hs:=sc Z (xFa Z Qe (zbc Z))<|.nil)
   have j:=j.tipW (s:=75) 3 [4,8,12]
   refine j.shA 4 75 1 3 (tp Z) [] [8,12] λ j=>?_
   refine Wz ?_
   have j:=j.unm (s:=4) 1 [8,12]
   have j:=j.unm (s:=8) 5 [4,12]
   cases h
   exact fz
  have j:=j.unm (s:=4) 1 [8,12]
  have j:=j.unm (s:=8) 5 [4,12]
  cases h
  exact fz
 rintro _ _ ⟨_,Q,R,W,X,Y,A,B,j⟩
 have h:=e0
 refine j.nmB (s:=8) 5 [4,12] λ h6 j=>?_
 refine j.nmB (s:=4) 1 [8,12] λ h7 j=>?_
 refine j.hdW (s:=4) 1 true (λ _=>Pb) [8,12] λ cs84 hS84 j=>?_
 refine j.lateO (D:=[_,_,_,dtrue]) (sb:=8) (s4:=4) 5 1 zN 4 3 [[(4,nS)],[(12,nS)],[(78,1)],[(8,nS),(77,0)],[(79,2)]] (
  lc Z Z Z (xLw (sb:=4) (.head _) Z (hS84 Z) Z U Z)<|
  lc Z Z Z (jQ Dir.fld3 Z (ht:=zbN) T)<|
  lc Z Z Z (y8 Z T)<|
  ll Z<|.nil) ⟨.inl Z,⟨.inr ⟨6,by decide,λ _ h=>h⟩,⟨.inl Z,⟨.inl Z,trivial⟩⟩⟩⟩ (zt Z) (tp Z) (hS84 Z) (.head _) [79] [] (λ _ _ _ j=>?_)
 refine j.zh 1 [(8,5)] (λ j=>Wz ?_)
 exact j.rtCt 5 Z kT72 Z Z h
def jd(x1:Disk)(x2:List Int)(x3:Str)(x4:Str)(a8:Finder×Finder×Spec×(List Int)×Int):Option ((Finder×Finder×Spec×(List Int)×Int)⊕((Finder×Finder×Spec×(List Int))⊕(Finder×Spec))):=
if(cmpI .lss a8.2.2.2.2 (x2.length:Int))=true then(Option.bind (α:=(Finder×Finder×Spec×(List Int))⊕((Finder×Finder×Spec×(List Int)×Int)⊕((Finder×Finder×Spec×(List Int))⊕(Finder×Spec)))) ((atI x2 a8.2.2.2.2).bind λ e4=>
(W8 a8.1 x1 e4 x3).bind λ b3=>
(catO x4 (⟨[47]⟩:Str)).bind λ b8=>
(ZG b3.2 b8).bind λ a9=>
(atI x2 a8.2.2.2.2).bind λ b9=>
(xZ x3 x4).bind λ c8=>
(Yr x1.tree (⟨b9,c8,⟨[]⟩,true,0,[]⟩:File)).bind λ b5=>
if(a9&&cmpI .geq b5 0)=true then((atI x2 a8.2.2.2.2).bind λ d1=>
some (.inr (.inr (.inr (b3.1,(⟨(2:Int),b5,([d1]:List Int)⟩:Spec))))))
else((atI x2 a8.2.2.2.2).bind λ d2=>
(Yr x1.tree (⟨d2,x3,x4,false,0,[]⟩:File)).bind λ b6=>
(ZG b3.2 x4).bind λ d3=>
if(d3&&cmpI .geq b6 0)=true then(some (.inr (.inr (.inr (b3.1,(⟨(1:Int),b6,([]:List Int)⟩:Spec))))))
else((gO (a9 == true) (atI x2 a8.2.2.2.2)).bind λ d4=>
(gO (a9 == true) (xZ x3 x4)).bind λ d5=>
(gO (a9 == true) (Xv x1.tree d4 d5)).bind λ d6=>
if(a9&&d6)=true then((atI x2 a8.2.2.2.2).bind λ d7=>
(appO 8 a8.2.2.2.1 ([d7]:List Int)).bind λ e0=>
some (.inl (b3.1,a8.2.1,a8.2.2.1,e0)))
else(some (.inl (b3.1,a8.2.1,a8.2.2.1,a8.2.2.2.1)))))) (Sum.elim (λ b7=>
(i64 (a8.2.2.2.2+(1:Int))).bind λ e3=>
some (.inl (b7.1,b7.2.1,b7.2.2.1,b7.2.2.2,e3))) some))
else(some (.inr (.inl (a8.1,a8.2.1,a8.2.2.1,a8.2.2.2.1))))
def W9(x0:Finder)(x1:Disk)(x2:List Int)(x3:Str)(x4:Str):Option (Finder×Spec):=
Option.bind (α:=(Finder×Finder×Spec×(List Int))⊕(Finder×Spec)) (zE (λ b3=>jd x1 x2 x3 x4 b3) (x0,yZ,XX,[],(0:Int))) (Sum.elim (λ a8=>
if(cmpI .gtr (a8.2.2.2.length:Int) 0)=true then(some (a8.1,(⟨(3:Int),(-1:Int),a8.2.2.2⟩:Spec)))
else((W1).bind λ a9=>
some (a8.1,a9))) some)
theorem spec_seenIn_w{x0 x1 x2 r}(h:W9 x0 x1 x2 x3 x4=some r):FnT prog 184 oFi x0 [dt x1,dt x2,dt x3,dt x4] (.t2o oFi r.1 (dt r.2)):=by
 refine fnT (fn:=f184) 0 13 func184 Z Z (λ M G w0 _ y=>wqw ?_)
 refine QY<|y.boxW 1 0 [1,2,3,4] [] λ b1 _ M1 _ _ y=>?_
 refine y.zh 1 [(5,1)] λ y=>?_
 refine y.alcW (ow:=oFi) 10 (owFinder.z Ow.row_z) [2,3,4,6] [5] λ b4 _ _ _ y=>?_
 refine y.alA 11 QK [2,3,4,6] [5,10] λ b7 y=>?_
 refine Wz<|y.zo [(5,1),(10,10),(11,11),(12,8)] (λ y=>?_) (hs:=sc Z (xt (α:=Int) (e:=3) Z)<|segZ)
 refine za ?_
 have⟨e7,e8,b9⟩:=bs h
 refine wqj (λ a w=>∃ b6,e7=.inl b6/\(∃ M1 Q R W X Y A B C E F H I J,Sx (Frm.chg w0 G) 115 M M1 [Q,R,W,X,Y,A,B,C,oneB E,F,H,oneB I,J] [] [(11,11,dbox I 0 b6.2.2.1),(12,8,dtip E 3 b6.2.2.2),(5,1,dow oBF R ⟨b6.1⟩),(10,10,dow oBF H ⟨b6.2.1⟩)] a w)) ?_ ?_
 ·refine y.zo [(5,1),(10,10),(11,11),(12,8)] λ y=>?_
  have y:=y.unm (s:=5) 1 [10,11,12]
  have y:=y.unm (s:=10) 10 [5,11,12]
  refine wql e8 (λ a8 a w=>∃ M1 Q R W X Y A B C E F H I J,Sx (Frm.chg w0 G) 115 M M1 [Q,R,W,X,Y,A,B,C,oneB E,F,H,oneB I,J] [(2,dt x2),(3,dt x3),(4,dt x4),(6,dptr x1),(13,dt a8.2.2.2.2)] [(11,11,dbox I 0 a8.2.2.1),(12,8,dtip E 3 a8.2.2.2.1),(5,1,dow oBF R ⟨a8.1⟩),(10,10,dow oBF H ⟨a8.2.1⟩)] a w) fx ?_
  rintro a8 e9 _ _ ⟨_,Q,R,W,X,Y,A,B,C,E,F,H,I,J,y⟩ c8 b5
  have h:jd x1 x2 x3 x4 a8=some e9:=c8
  unfold jd at h
  refine y.zd [(5,1),(10,10),(11,11),(12,8)] h (λ y h=>?_) λ y h=>?_
  ·refine wqk<|za ?_
   have⟨f9,g0,d1⟩:=bs h
   refine wqj (λ a w=>∃ b8,f9=.inl b8/\(∃ M1 Q R W X Y A B C E F H I J,Sx (Frm.chg w0 G) 115 M M1 [Q,R,W,X,Y,A,B,C,oneB E,F,H,oneB I,J] [(2,dt x2),(3,dt x3),(4,dt x4),(6,dptr x1),(13,dt a8.2.2.2.2)] [(11,11,dbox I 0 b8.2.2.1),(12,8,dtip E 3 b8.2.2.2),(5,1,dow oBF R ⟨b8.1⟩),(10,10,dow oBF H ⟨b8.2.1⟩)] a w)) ?_ ?_
   ·refine y.heldF zN λ b3 _ hz20 y=>?_
    refine y.tkLp (i:=1) (y.fzS (g:=115)) hz20 (tp Z) λ y=>?_
    refine y.tM 2 2 (y.fzS (g:=115)) λ _ y=>?_
    refine y.tM 3 13 (y.fzS (g:=115)) λ _ y=>?_
    have⟨d2,g3,h⟩:=bs g0
    refine y.tkIF (i:=4) Z Z (λ _ _ _ _ h=>h) (y.fzS (g:=115)) Z kS23 (tp Z) (tp Z) g3 (next:=@λ a25 y=>?_)
    refine y.tkLp (i:=5) (y.fzS (g:=115)) hz20 (tp Z) λ y=>?_
    refine y.tM 6 3 (y.fzS (g:=115)) λ _ y=>?_
    have⟨a9,e6,h⟩:=bs h
    refine ws 1 8191 (λ a w=>∃ M1 Q R X Y A B C E F H I J,Sx (Frm.chg w0 G) 115 M M1 [Q,R,oneB none,X,Y,A,B,C,oneB E,F,H,oneB I,J] [(2,dt x2),(3,dt x3),(4,dt x4),(6,dptr x1),(13,dt a8.2.2.2.2),(36,dt a9.2),(115,dfz b3)] [(11,11,dbox I 0 a8.2.2.1),(12,8,dtip E 3 a8.2.2.2.1),(10,10,dow oBF H ⟨a8.2.1⟩),(14,12,dow oBF J ⟨a9.1⟩),(5,1,dbd R 3)] a w) ?_ λ n108=>?_
    ·rintro _ _ ⟨_,Q,R,X,Y,A,B,C,E,F,H,I,J,y⟩
     refine aK1 13 ?_
     refine y.zh 1 [(5,1),(10,10),(11,11),(12,8),(14,12)] λ y=>?_
     refine aHN (y.fzS (g:=115)) ?_
     refine aK0<|QY<|y.nmB (s:=14) 12 [5,10,11,12] λ g4 y=>?_
     refine y.ldW (sb:=14) 12 [2,3,4,6,13,15] [5,10,11,12] λ y=>?_
     refine y.stRv (sb:=5) (tv:=37) 1 12 Z Z Z kT72 Z Z Z [2,3,4,6,13,15] Z [10,11,12] Z Z Z λ _ _ y=>?_
     have⟨g5,g6,g7,g8,h⟩:=Ke h
     refine Wz<|y.zo [(5,1),(10,10),(11,11),(12,8)] λ y=>?_
     have⟨g9,h0,h1,d3,h⟩:=Ke h
     have⟨h2,d4,h⟩:=bs h
     refine y.zv [(5,1),(10,10),(11,11),(12,8)] (λ y=>?_) (hs:=sV 8 (r:=by exact sw Z (zA (l:=[.tmp 48,.tmp 49]) Z (.cons T (.cons T .nil)) (Wf d3))<|sw Z (zfj Z T T cB)<|sw Z (zA (l:=[.tmp 43,.tmp 51]) Z (.cons T (.cons T .nil)) (QQ d4))<|sw Z (oA Z T)<|.nil))
     refine y.zd [(5,1),(10,10),(11,11),(12,8)] h (λ y h=>?_) λ y h=>?_
     ·refine y.nmB (s:=10) 10 [5,11,12] λ h3 y=>?_
      refine y.nmB (s:=5) 1 [10,11,12] λ h4 y=>?_
      have⟨h5,d5,h⟩:=bs h
      refine y.hdW (s:=5) 1 true (λ _=>Pb) [10,11,12] λ cs133 hS133 y=>?_
      refine y.lateO (D:=[_,_,_,_,_,_,_,_,dtrue]) (sb:=10) (s4:=5) 10 1 zN 9 8 [[(5,nS)],[(17,nS)],[(2,nS)],[(13,nS)],[(60,2),(61,3)],[(62,4)],[(63,5)],[(59,1),(64,6)],[(10,nS),(58,0)],[(11,nS),(65,7)]] (
       lc Z Z Z (xLw (sb:=5) (.head _) Z (hS133 Z) Z U Z)<|
        lc Z Z Z (oM Z T)<|
        lc Z Z Z (oM Z T)<|
        lc Z Z Z (oM Z T)<|
        lc Z Z Z (xIdx Z T T d5)<|
        lc Z Z Z (zH Z T)<|
        lc Z Z Z (xH (opds:=[.tmp 63]) Z Z Z (.cons T .nil))<|
        lc Z Z Z (XY Z cI T T)<|
        ll Z<|.nil) ⟨.inl Z,⟨.inl Z,⟨.inl Z,⟨.inl Z,⟨.inl Z,⟨.inl Z,⟨.inl Z,⟨.inl Z,⟨.inl Z,trivial⟩⟩⟩⟩⟩⟩⟩⟩⟩ (zt Z) (tp Z) (hS133 Z) (.head _) [65] [11] (λ _ _ _ y=>?_)
      refine y.stA 11 11 FldS.id (tp Z) [] [10] (λ y=>Wz ?_)
      have h:=jo h d1
      have h:=lo h b5
      have h:=jo h b9
      exact y.rtCC 10 zbg h
     have⟨h6,h7,h8,d6,h⟩:=Ke h
     refine y.zv [(5,1),(10,10),(11,11),(12,8)] (λ y=>?_) (hs:=sV 8 (r:=by exact sw Z (zfk Z T T T)<|sw Z (zA (l:=[.tmp 67,.tmp 74]) Z (.cons T (.cons T .nil)) (QQ d6))<|sw Z (oA Z T)<|.nil))
     have⟨h9,i0,h⟩:=bs h
     refine y.zd [(5,1),(10,10),(11,11),(12,8)] h (λ y h=>?_) λ y h=>?_
     ·refine QY<|y.nmB (s:=5) 1 [10,11,12] λ i3 y=>?_
      refine y.ldW (sb:=5) 1 [18] [10,11] λ y=>?_
      refine y.zh 3 [(10,10),(11,11),(83,1)] (λ y=>?_) (hs:=sZ 1 (r:=by exact sc Z (xH (opds:=[]) (α:=Int) Z Z Z .nil)<|sc Z (XY Z cI T T)<|.nil))
      refine y.nmB (s:=10) 10 [11,83] λ i4 y=>?_
      refine y.stO (sb:=10) (tv:=83) 10 1 Pb (zt Z) [86] [11] λ y=>?_
      refine y.stA 11 11 FldS.id (tp Z) [] [10] (λ y=>Wz ?_)
      have h:=jo h d1
      have h:=lo h b5
      have h:=jo h b9
      exact y.rtCC 10 zbg h
     have⟨i5,d7,i6,e0,h⟩:=Ke h
     have⟨i7,e3,h⟩:=bs h
     refine y.zv [(5,1),(10,10),(11,11),(12,8)] (λ y=>?_) (hs:=sV 6 (r:=by exact swg Z Z (λ hg=>xIdx Z V V (gh hg d7))<|sV 3 (r:=by exact swg Z Z (λ hg=>zA (l:=[.tmp 95,.tmp 96]) Z (.cons V (.cons V .nil)) (Wf (gh hg e0)))<|swg Z Z (λ hg=>zA (l:=[.tmp 90,.tmp 94,.tmp 97]) Z (.cons V (.cons V (.cons V .nil))) (zcb (gh hg e3)))<|sw Z (xc Z T T)<|.nil)))
     refine y.cq h (λ h=>?_) λ h=>?_
     ·have⟨i8,i9,h⟩:=bs h
      refine QY<|y.zh 6 [(5,1),(10,10),(11,11),(12,8),(100,8)] λ y=>?_
      have⟨j1,e4,h⟩:=bs h
      refine y.apA 8 yI e4 [2,3,4,6,13] [5,10,11] λ j2 y=>?_
      refine y.zh 1 [(5,1),(10,10),(11,11),(12,8)] (λ y=>Wz ?_)
      exact flz h
     exact flz h
    refine ws 2 4095 (λ a w=>∃ M1 Q R W X Y A B C E F H I J,Sx (Frm.chg w0 G) 115 M M1 [Q,R,W,X,Y,A,B,C,oneB E,F,H,oneB I,J] [(2,dt x2),(3,dt x3),(4,dt x4),(6,dptr x1),(13,dt a8.2.2.2.2),(36,dt a9.2),(115,dfz b3)] [(11,11,dbox I 0 a8.2.2.1),(12,8,dtip E 3 a8.2.2.2.1),(10,10,dow oBF H ⟨a8.2.1⟩),(14,12,dow oBF J ⟨yZ⟩),(35,2,dow oFi W a9.1),(5,1,dbd R 3)] a w) ?_ λ n96=>?_
    ·rintro _ _ ⟨_,Q,R,W,X,Y,A,B,C,E,F,H,I,J,y⟩
     refine aK1 12 ?_
     refine y.nmB (s:=14) 12 [5,10,11,12,35] λ j3 y=>?_
     refine y.stO (sb:=14) (tv:=35) 12 2 Pb (zt Z) [2,3,4,6,13,36,115] [5,10,11,12] λ y=>?_
     have y:=y.unm (s:=14) 12 [5,10,11,12]
     exact aHe n108 (y.fzS (g:=115))
    refine ws 2 7167 (λ a w=>∃ M1 Q R X Y A B C E F H I J,Sx (Frm.chg w0 G) 115 M M1 [Q,R,oneB none,X,Y,A,B,C,oneB E,F,H,oneB I,J] [(2,dt x2),(3,dt x3),(4,dt x4),(6,dptr x1),(13,dt a8.2.2.2.2),(26,dex2 (dt a9.2)),(115,dfz b3)] [(11,11,dbox I 0 a8.2.2.1),(12,8,dtip E 3 a8.2.2.2.1),(10,10,dow oBF H ⟨a8.2.1⟩),(14,12,dow oBF J ⟨a9.1⟩),(5,1,dbd R 3)] a w) ?_ λ n102=>?_
    ·rintro _ _ ⟨_,Q,R,X,Y,A,B,C,E,F,H,I,J,y⟩
     refine aK1 10 ?_
     refine y.zh 1 [(5,1),(10,10),(11,11),(12,8),(14,12)] (λ y=>?_) (hs:=sc Z (xEx2o Z T)<|.nil)
     exact aHe n108 (y.fzS (g:=115))
    refine ws 3 2047 (λ a w=>∃ M1 Q R W X Y A B C E F H I J,Sx (Frm.chg w0 G) 115 M M1 [Q,R,W,X,Y,A,B,C,oneB E,F,H,oneB I,J] [(2,dt x2),(3,dt x3),(4,dt x4),(6,dptr x1),(13,dt a8.2.2.2.2),(36,dt a9.2),(115,dfz b3)] [(11,11,dbox I 0 a8.2.2.1),(12,8,dtip E 3 a8.2.2.2.1),(10,10,dow oBF H ⟨a8.2.1⟩),(35,2,dow oFi W a9.1),(5,1,dbd R 3)] a w) ?_ λ n81=>?_
    ·rintro _ _ ⟨_,Q,R,W,X,Y,A,B,C,E,F,H,I,J,y⟩
     refine aK1 11 ?_
     refine y.alcW (ow:=oFi) 12 (owFinder.z Ow.row_z) [2,3,4,6,13,36,115] [5,10,11,12,35] λ j4 _ _ _ y=>?_
     have y:=y.unm (s:=14) 12 [5,10,11,12,35]
     exact aHe n96 (y.fzS (g:=115))
    refine ws 3 3071 (λ a w=>∃ M1 Q R W X Y A B C E F H I J,Sx (Frm.chg w0 G) 115 M M1 [Q,R,W,X,Y,A,B,C,oneB E,F,H,oneB I,J] [(2,dt x2),(3,dt x3),(4,dt x4),(6,dptr x1),(13,dt a8.2.2.2.2),(26,dex2 (dt a9.2)),(115,dfz b3)] [(11,11,dbox I 0 a8.2.2.1),(12,8,dtip E 3 a8.2.2.2.1),(10,10,dow oBF H ⟨a8.2.1⟩),(14,12,dow oBF J ⟨yZ⟩),(35,2,dow oFi W a9.1),(5,1,dbd R 3)] a w) ?_ λ n85=>?_
    ·rintro _ _ ⟨_,Q,R,W,X,Y,A,B,C,E,F,H,I,J,y⟩
     refine aK2 10 12 ?_ ?_
     ·refine y.zh 1 [(5,1),(10,10),(11,11),(12,8),(14,12),(35,2)] (λ y=>?_) (hs:=sc Z (xEx2o Z T)<|.nil)
      exact aHe n96 (y.fzS (g:=115))
     ·refine y.nmB (s:=14) 12 [5,10,11,12,35] λ j5 y=>?_
      refine y.stO (sb:=14) (tv:=35) 12 2 Pb (zt Z) [2,3,4,6,13,26,115] [5,10,11,12] λ y=>?_
      have y:=y.unm (s:=14) 12 [5,10,11,12]
      exact aHe n102 (y.fzS (g:=115))
    refine ws 3 3583 (λ a w=>∃ M1 Q R W X Y A B C E F H I J,Sx (Frm.chg w0 G) 115 M M1 [Q,R,W,X,Y,A,B,C,oneB E,F,H,oneB I,J] [(2,dt x2),(3,dt x3),(4,dt x4),(6,dptr x1),(13,dt a8.2.2.2.2),(36,dt a9.2),(115,dfz b3)] [(11,11,dbox I 0 a8.2.2.1),(12,8,dtip E 3 a8.2.2.2.1),(10,10,dow oBF H ⟨a8.2.1⟩),(14,12,dow oBF J ⟨yZ⟩),(5,1,dbd R 3),(26,2,drd (.t2o oFi a9.1 (dt a9.2)) W)] a w) ?_ λ n90=>?_
    ·rintro _ _ ⟨_,Q,R,W,X,Y,A,B,C,E,F,H,I,J,y⟩
     refine aK1 9 ?_
     refine y.ex2o (s:=26) 2 [5,10,11,12,14] λ _ y=>?_
     exact aHe n96 (y.fzS (g:=115))
    refine ws 4 1023 (λ a w=>∃ M1 Q R W X Y A B C E F H I J,Sx (Frm.chg w0 G) 115 M M1 [Q,R,W,X,Y,A,B,C,oneB E,F,H,oneB I,J] [(2,dt x2),(3,dt x3),(4,dt x4),(6,dptr x1),(13,dt a8.2.2.2.2),(26,dex2 (dt a9.2)),(115,dfz b3)] [(11,11,dbox I 0 a8.2.2.1),(12,8,dtip E 3 a8.2.2.2.1),(10,10,dow oBF H ⟨a8.2.1⟩),(35,2,dow oFi W a9.1),(5,1,dbd R 3)] a w) ?_ λ n72=>?_
    ·rintro _ _ ⟨_,Q,R,W,X,Y,A,B,C,E,F,H,I,J,y⟩
     refine aK2 10 11 ?_ ?_
     ·refine y.zh 1 [(5,1),(10,10),(11,11),(12,8),(35,2)] (λ y=>?_) (hs:=sc Z (xEx2o Z T)<|.nil)
      exact aHe n81 (y.fzS (g:=115))
     ·refine y.alcW (ow:=oFi) 12 (owFinder.z Ow.row_z) [2,3,4,6,13,26,115] [5,10,11,12,35] λ j6 _ _ _ y=>?_
      have y:=y.unm (s:=14) 12 [5,10,11,12,35]
      exact aHe n85 (y.fzS (g:=115))
    refine ws 4 1535 (λ a w=>∃ M1 Q R W X Y A B C E F H I J,Sx (Frm.chg w0 G) 115 M M1 [Q,R,W,X,Y,A,B,C,oneB E,F,H,oneB I,J] [(2,dt x2),(3,dt x3),(4,dt x4),(6,dptr x1),(13,dt a8.2.2.2.2),(36,dt a9.2),(115,dfz b3)] [(11,11,dbox I 0 a8.2.2.1),(12,8,dtip E 3 a8.2.2.2.1),(10,10,dow oBF H ⟨a8.2.1⟩),(5,1,dbd R 3),(26,2,drd (.t2o oFi a9.1 (dt a9.2)) W)] a w) ?_ λ n74=>?_
    ·rintro _ _ ⟨_,Q,R,W,X,Y,A,B,C,E,F,H,I,J,y⟩
     refine aK2 9 11 ?_ ?_
     ·refine y.ex2o (s:=26) 2 [5,10,11,12] λ _ y=>?_
      exact aHe n81 (y.fzS (g:=115))
     ·refine y.alcW (ow:=oFi) 12 (owFinder.z Ow.row_z) [2,3,4,6,13,36,115] [5,10,11,12,26] λ j7 _ _ _ y=>?_
      have y:=y.unm (s:=14) 12 [5,10,11,12,26]
      exact aHe n90 (y.fzS (g:=115))
    refine ws 4 2559 (λ a w=>∃ M1 Q R W X Y A B C E F H I J,Sx (Frm.chg w0 G) 115 M M1 [Q,R,W,X,Y,A,B,C,oneB E,F,H,oneB I,J] [(2,dt x2),(3,dt x3),(4,dt x4),(6,dptr x1),(13,dt a8.2.2.2.2),(115,dfz b3)] [(11,11,dbox I 0 a8.2.2.1),(12,8,dtip E 3 a8.2.2.2.1),(10,10,dow oBF H ⟨a8.2.1⟩),(14,12,dow oBF J ⟨yZ⟩),(5,1,dbd R 3),(26,2,drd (.t2o oFi a9.1 (dt a9.2)) W)] a w) ?_ λ n78=>?_
    ·rintro _ _ ⟨_,Q,R,W,X,Y,A,B,C,E,F,H,I,J,y⟩
     refine aK2 9 10 ?_ ?_
     ·refine y.ex2o (s:=26) 2 [5,10,11,12,14] λ _ y=>?_
      exact aHe n85 (y.fzS (g:=115))
     ·refine y.zh 1 [(5,1),(10,10),(11,11),(12,8),(14,12),(26,2)] (λ y=>?_) (hs:=sc Z (xEx2p (s:=26) Z Z Z)<|.nil)
      exact aHe n90 (y.fzS (g:=115))
    refine ws 5 511 (λ a w=>∃ M1 Q R W X Y A B C E F H I J,Sx (Frm.chg w0 G) 115 M M1 [Q,R,W,X,Y,A,B,C,oneB E,F,H,oneB I,J] [(2,dt x2),(3,dt x3),(4,dt x4),(6,dptr x1),(13,dt a8.2.2.2.2),(115,dfz b3)] [(11,11,dbox I 0 a8.2.2.1),(12,8,dtip E 3 a8.2.2.2.1),(10,10,dow oBF H ⟨a8.2.1⟩),(5,1,dbd R 3),(26,2,drd (.t2o oFi a9.1 (dt a9.2)) W)] a w) ?_ λ n64=>?_
    ·rintro _ _ ⟨_,Q,R,W,X,Y,A,B,C,E,F,H,I,J,y⟩
     refine aH3 (i:=9) (j:=10) (k:=11) Z Z Z ?_ ?_ ?_
     ·refine y.ex2o (s:=26) 2 [5,10,11,12] λ _ y=>?_
      exact aHe n72 (y.fzS (g:=115))
     ·refine y.zh 1 [(5,1),(10,10),(11,11),(12,8),(26,2)] (λ y=>?_) (hs:=sc Z (xEx2p (s:=26) Z Z Z)<|.nil)
      exact aHe n74 (y.fzS (g:=115))
     ·refine y.alcW (ow:=oFi) 12 (owFinder.z Ow.row_z) [2,3,4,6,13,115] [5,10,11,12,26] λ k0 _ _ _ y=>?_
      have y:=y.unm (s:=14) 12 [5,10,11,12,26]
      exact aHe n78 (y.fzS (g:=115))
    refine ws 5 2303 (λ a w=>∃ M1 Q R W X Y A B C E F H I J,Sx (Frm.chg w0 G) 115 M M1 [Q,R,W,X,Y,A,B,C,oneB E,F,H,oneB I,J] [(2,dt x2),(3,dt x3),(4,dt x4),(6,dptr x1),(13,dt a8.2.2.2.2),(115,dfz b3)] [(11,11,dbox I 0 a8.2.2.1),(12,8,dtip E 3 a8.2.2.2.1),(10,10,dow oBF H ⟨a8.2.1⟩),(14,12,dow oBF J ⟨yZ⟩),(5,1,dbd R 3),(34,2,drd (.t2o oFi a9.1 (dt a9.2)) W)] a w) ?_ λ n68=>?_
    ·rintro _ _ ⟨_,Q,R,W,X,Y,A,B,C,E,F,H,I,J,y⟩
     refine aK1 8 ?_
     refine y.mvD (s:=34) 2 Z Z Z Z Z [5,10,11,12,14] Z λ _ y=>?_
     exact aHe n78 (y.fzS (g:=115))
    refine ws 6 255 (λ a w=>∃ M1 Q R W X Y A B C E F H I J,Sx (Frm.chg w0 G) 115 M M1 [Q,R,W,X,Y,A,B,C,oneB E,F,H,oneB I,J] [(2,dt x2),(3,dt x3),(4,dt x4),(6,dptr x1),(13,dt a8.2.2.2.2),(115,dfz b3)] [(11,11,dbox I 0 a8.2.2.1),(12,8,dtip E 3 a8.2.2.2.1),(10,10,dow oBF H ⟨a8.2.1⟩),(5,1,dbd R 3),(34,2,drd (.t2o oFi a9.1 (dt a9.2)) W)] a w) ?_ λ n55=>?_
    ·rintro _ _ ⟨_,Q,R,W,X,Y,A,B,C,E,F,H,I,J,y⟩
     refine aK2 8 11 ?_ ?_
     ·refine y.mvD (s:=34) 2 Z Z Z Z Z [5,10,11,12] Z λ _ y=>?_
      exact aHe n64 (y.fzS (g:=115))
     ·refine y.alcW (ow:=oFi) 12 (owFinder.z Ow.row_z) [2,3,4,6,13,115] [5,10,11,12,34] λ k1 _ _ _ y=>?_
      have y:=y.unm (s:=14) 12 [5,10,11,12,34]
      exact aHe n68 (y.fzS (g:=115))
    refine ws 6 2175 (λ a w=>∃ M1 Q R W X Y A B C E F H I J,Sx (Frm.chg w0 G) 115 M M1 [Q,R,W,X,Y,A,B,C,oneB E,F,H,oneB I,J] [(2,dt x2),(3,dt x3),(4,dt x4),(6,dptr x1),(13,dt a8.2.2.2.2),(28,dt x1),(32,dt d2),(33,dt x3),(115,dfz b3)] [(11,11,dbox I 0 a8.2.2.1),(12,8,dtip E 3 a8.2.2.2.1),(10,10,dow oBF H ⟨a8.2.1⟩),(14,12,dow oBF J ⟨yZ⟩),(27,2,dow oFi W a8.1),(5,1,dbd R 3)] a w) ?_ λ n59=>?_
    ·rintro _ _ ⟨_,Q,R,W,X,Y,A,B,C,E,F,H,I,J,y⟩
     refine aK1 7 ?_
     refine y.cT (sb:=27) (l:=[.tmp 28,.tmp 32,.tmp 33]) 2 (.cons T (.cons T (.cons T .nil))) (zck e6) [2,3,4,6,13,115] [5,10,11,12,14] λ y=>?_
     exact aHe n68 (y.fzS (g:=115))
    refine ws 7 127 (λ a w=>∃ M1 Q R W X Y A B C E F H I J,Sx (Frm.chg w0 G) 115 M M1 [Q,R,W,X,Y,A,B,C,oneB E,F,H,oneB I,J] [(2,dt x2),(3,dt x3),(4,dt x4),(6,dptr x1),(13,dt a8.2.2.2.2),(28,dt x1),(32,dt d2),(33,dt x3),(115,dfz b3)] [(11,11,dbox I 0 a8.2.2.1),(12,8,dtip E 3 a8.2.2.2.1),(10,10,dow oBF H ⟨a8.2.1⟩),(27,2,dow oFi W a8.1),(5,1,dbd R 3)] a w) ?_ λ n48=>?_
    ·rintro _ _ ⟨_,Q,R,W,X,Y,A,B,C,E,F,H,I,J,y⟩
     refine aK2 7 11 ?_ ?_
     ·refine y.cT (sb:=27) (l:=[.tmp 28,.tmp 32,.tmp 33]) 2 (.cons T (.cons T (.cons T .nil))) (zck e6) [2,3,4,6,13,115] [5,10,11,12] λ y=>?_
      exact aHe n55 (y.fzS (g:=115))
     ·refine y.alcW (ow:=oFi) 12 (owFinder.z Ow.row_z) [2,3,4,6,13,28,32,33,115] [5,10,11,12,27] λ k3 _ _ _ y=>?_
      have y:=y.unm (s:=14) 12 [5,10,11,12,27]
      exact aHe n59 (y.fzS (g:=115))
    refine ws 7 2174 (λ a w=>∃ M1 Q R W X Y A B C E F H I J,Sx (Frm.chg w0 G) 115 M M1 [Q,R,W,X,Y,A,B,C,oneB E,F,H,oneB I,J] [(2,dt x2),(3,dt x3),(4,dt x4),(6,dptr x1),(13,dt a8.2.2.2.2),(28,dt x1),(32,dt d2),(33,dt x3),(115,dfz b3)] [(11,11,dbox I 0 a8.2.2.1),(12,8,dtip E 3 a8.2.2.2.1),(5,1,dow oBF R ⟨a8.1⟩),(10,10,dow oBF H ⟨a8.2.1⟩),(14,12,dow oBF J ⟨yZ⟩)] a w) ?_ λ n52=>?_
    ·rintro _ _ ⟨_,Q,R,W,X,Y,A,B,C,E,F,H,I,J,y⟩
     refine aK1 0 ?_
     refine y.nmB (s:=5) 1 [10,11,12,14] λ k4 y=>?_
     refine y.ldK (sb:=5) 1 2 kT72 [2,3,4,6,13,28,32,33,115] [10,11,12,14] λ _ H224 _ _ y=>?_
     exact aHe n59 (y.fzS (g:=115))
    refine aK2 0 11 ?_ ?_
    ·refine y.nmB (s:=5) 1 [10,11,12] λ k5 y=>?_
     refine y.ldK (sb:=5) 1 2 kT72 [2,3,4,6,13,28,32,33,115] [10,11,12] λ _ H227 _ _ y=>?_
     exact aHe n48 (y.fzS (g:=115))
    ·refine y.alcW (ow:=oFi) 12 (owFinder.z Ow.row_z) [2,3,4,6,13,28,32,33,115] [5,10,11,12] λ k6 _ _ _ y=>?_
     have y:=y.unm (s:=14) 12 [5,10,11,12]
     exact aHe n52 (y.fzS (g:=115))
   rintro _ _ ⟨b8,rfl,⟨_,Q,R,W,X,Y,A,B,C,E,F,H,I,J,y⟩⟩
   have h:=jn d1
   have⟨k7,k8,h⟩:=bs h
   exact y.zn [(5,1),(10,10),(11,11),(12,8)] h
  have h:=lo h b5
  exact flz h
 rintro _ _ ⟨b6,rfl,⟨_,Q,R,W,X,Y,A,B,C,E,F,H,I,J,y⟩⟩
 have h:=jn b9
 refine y.zd [(5,1),(10,10),(11,11),(12,8)] h (λ y h=>?_) (λ y h=>?_) (hs:=sZ 1 (r:=by exact sc Z (zbJ Z T)<|segZ))
 ·have y:=y.frz 8 (s:=12) Z Z [109] Z [5,10,11] Z
  refine QY<|y.nmB (s:=5) 1 [10,11] λ k9 y=>?_
  refine y.ldW (sb:=5) 1 [12] [10,11] λ y=>?_
  refine y.zh 2 [(10,10),(11,11),(110,1)] (λ y=>?_) (hs:=sZ 1 (r:=by exact sc Z (XY Z cI cI T)<|.nil))
  refine y.nmB (s:=10) 10 [11,110] λ l3 y=>?_
  refine y.stO (sb:=10) (tv:=110) 10 1 Pb (zt Z) [112] [11] λ y=>?_
  refine y.stA 11 11 FldS.id (tp Z) [] [10] (λ y=>Wz ?_)
  exact y.rtCC 10 zbg h
 refine y.nmB (s:=10) 10 [5,11,12] λ l4 y=>?_
 refine y.nmB (s:=5) 1 [10,11,12] λ l5 y=>?_
 have⟨l6,e5,h⟩:=bs h
 refine y.hdW (s:=5) 1 true (λ _=>Pb) [10,11,12] λ cs252 hS252 y=>?_
 refine y.lateO (D:=[_,_,dtrue]) (sb:=10) (s4:=5) 10 1 zN 3 2 [[(5,nS)],[],[(10,nS),(113,0)],[(11,nS),(114,1)]] (
  lc Z Z Z (xLw (sb:=5) (.head _) Z (hS252 Z) Z U Z)<|
  lc Z Z Z (zA (l:=[]) Z .nil (zca e5))<|
  ll Z<|.nil) ⟨.inl Z,⟨.inl Z,⟨.inl Z,trivial⟩⟩⟩ (zt Z) (tp Z) (hS252 Z) (.head _) [114] [11] (λ _ _ _ y=>?_)
 refine y.stA 11 11 FldS.id (tp Z) [] [10] (λ y=>Wz ?_)
 exact y.rtCC 10 zbg h
theorem JM:fldB prog 119 7 7=true:=by kernel_rfl
theorem kT70:tyB prog 70 false 1=true:=by kernel_rfl
theorem kF75_0:fldB prog 75 0 0=true:=by kernel_rfl
theorem kF75_3:fldB prog 75 3 7=true:=by kernel_rfl
theorem kF119_0:fldB prog 119 0 0=true:=by kernel_rfl
theorem kF75_4:fldB prog 75 4 8=true:=by kernel_rfl
instance iF119_7WbD:FldO prog 119 7 7:=⟨JM⟩
instance iF75_0WbD:FldO prog 75 0 0:=⟨kF75_0⟩
def Yw(x0:Runner)(x1:Int):Option (Runner×(List Stmt)):=
if(!x0.warm.x.on)=true then none
else((atI x0.t.files x1).bind λ v9=>
(Yk x0.warm.x.store v9 x0.warm.x.mode).bind λ a8=>
(appO 56 [] a8.1).bind λ a9=>
some ({ x0 with warm:=⟨{ x0.warm.x with store:=a8.2.1 }⟩ },a9))
theorem spec_bodyOf_w{r}(h:Yw x0 x1=some r):FnS prog 106 (oRun bw) ⟨x0⟩ [dt x1] ⟨r.1⟩ (.frz (dt r.2)):=by
 refine fnSB (fn:=f106) 1 4 func106 Z Z (λ M G _ b0 _ j=>wqw ?_)
 refine j.zo [(0,1)] (λ j=>?_) (hs:=sc Z (oA Z (wu (α:=Stmt)))<|.nil)
 refine j.hdAd (s:=0) 1 true (λ _=>(Pb.fld owRunner.f7)) [] λ j=>?_
 refine j.zo [(0,1)] (λ j=>?_) (hs:=sZ 6 (r:=by exact sc Z (xLf (sb:=0) (((Pb.fld owRunner.f7).boxA).fld owWarmth.f0) Z T Z)<|segZ))
 have j:=j.ncf (s:=0) 1 []
 refine j.cq h (λ h=>?_) λ h=>?_
 ·cases h
 have⟨v9,p9,h⟩:=bs h
 refine j.hdAd (s:=0) 1 true (λ _=>(Pb.fld owRunner.f7)) [] λ j=>?_
 refine j.hdA 0 1 (((Pb.fld owRunner.f7).boxA).fld owWarmth.f3) [] λ g8 A8 _ hA8 j=>?_
 refine j.pre zN 22 29 λ _ j=>?_
 refine j.drnE (D:=[_,_,_,_,_,_,_,_,_,_,_,_,_,_,_,_,_,_,_,_,_,_]) 22 [] [[(0,nS)],[(26,0)],[(27,1)],[(28,2),(0,nS)],[(29,3)],[(30,4)],[(31,5),(0,nS)],[(0,nS)],[(33,7)],[(34,8)],[(35,9)],[(36,10),(0,nS)],[(1,nS)],[(37,11),(38,12)],[(39,13)],[(0,nS)],[(41,15)],[(42,16)],[(43,17),(0,nS)],[(44,18)],[(45,19)],[(46,20),(0,nS)]] (
  rc Z Z (oM Z U)<|
  rc Z Z (xNc Z T)<|
  rc Z Z (xFa Z JM T)<|
  rc Z Z (xLc (sb:=0) (.tail _ (.head _)) Z Z Z T Z)<|
  rc Z Z (xNc Z T)<|
  rc Z Z (xFa Z kF75_3 T)<|
  rc Z Z (xLc (sb:=0) (.head _) Z Z Z T Z)<|
  rc Z Z (oM Z U)<|
  rc Z Z (xNc Z T)<|
  rc Z Z (xFa Z kF119_0 T)<|
  rc Z Z (xFa Z qr T)<|
  rc Z Z (xLf (sb:=0) ((Pb.fld owRunner.f0).fld Tree.z0) Z T Z)<|
  rc Z Z (oM Z T)<|
  rc Z Z (xIdx Z T T p9)<|
  rc Z Z (zH Z T)<|
  rc Z Z (oM Z U)<|
  rc Z Z (xNc Z T)<|
  rc Z Z (xFa Z JM T)<|
  rc Z Z (xLc (sb:=0) (.tail _ (.head _)) Z Z Z T Z)<|
  rc Z Z (xNc Z T)<|
  rc Z Z (xFa Z kF75_4 T)<|
  rc Z Z (xLf (sb:=0) (((Pb.fld owRunner.f7).boxA).fld owWarmth.f4) Z T Z)<|.nil) (λ _ h=>by cases h) [29,32,40,47] [(0,1)] rfl ⟨λ _ h=>h,trivial⟩ (λ j=>?_)
 refine pre_nil<|aK1 22 ?_
 refine j.mvNA (s:=29) (sb:=0) 1 3 (Pb.fld owRunner.f7) (.tail _ (.head _)) (.head _) Z Z [32,40,47] Z [] Z Z Z Z λ a8 H14 j=>?_
 refine j.mvG (s:=32) (sb:=29) 3 0 (Pb.fld owWarmth.f3) (.head _) (zT Z Z) [40,47] [0] @λ a9 H16 j=>?_
 have j:=j.gs (Gs':=[H16,a8,oneB none,a9])
 have⟨b7,b3,h⟩:=bs h
 refine j.cT (sb:=32) (l:=[.tmp 40,.tmp 47]) 0 (.cons T (.cons T .nil)) (zeY b3) [] [0,29] λ j=>?_
 refine aHN trivial ?_
 refine j.tkMo (i:=23) (sb:=48) 0 Z Z (by decide +kernel) (by decide +kernel) trivial Z Z [0,29] Z Z λ _ j=>?_
 refine j.tk30 (i:=24) (s:=25) Z Z (λ _ _ _ _ h=>h) trivial Z Z λ _ j=>?_
 refine j.tk31 (i:=25) (s:=25) 0 Z Z (λ _ _ _ _ h=>h) trivial Z Z (λ _ h=>h) [0,29] Z Z λ _ j=>?_
 refine j.tk32 (i:=26) (s:=25) Z Z (λ _ _ _ _ h=>h) trivial Z Z λ _ j=>?_
 refine j.tkAs (i:=27) Z Z Z (tp Z) Z λ _ j=>?_
 refine j.tkAo (i:=28) (sb:=50) 0 Z Z (λ _ _ _ _ h=>h) trivial Z Z (λ _ h=>h) [0,29] Z Z λ _ j=>?_
 refine j.tkAs (i:=29) Z Z Z (tp Z) Z (λ _ j=>aK0 ?_)
 refine QY<|j.nmR (s:=6) 0 [0,29] λ b8 b9 _ b5 j=>?_
 refine j.zh 7 [(0,1),(29,3),(56,0)] (λ j=>?_) (hs:=sc Z (oM Z (opd_hk Z))<|
  sc Z (xNc Z T)<|
  sc Z (xFa Z JM T)<|
  sc Z (xLhk (sb:=0) Z kT70 T Z)<|
  sc Z (oM Z T)<|
  sc Z (xNc Z T)<|
  sc Z (xFa Z kF75_3 T)<|.nil)
 have j:=j.unm (s:=56) 0 [0,29]
 refine j.stH (sb:=29) (tv:=56) 3 0 Z Z Z kT73 (by simp) (by simp) (by decide) (tp Z) Z Z (λ _ h=>h) (λ _ h=>h) [5] Z [0] Z Z Z λ _ _ j=>?_
 have j:=j.toA (s:=29) 3 Z Z [0] Z
 refine Wz<|j.stG (s:=29) (sb:=0) 1 3 Z (by simp) (by simp) (by decide) Z Z (λ _ h=>h) (λ _ h=>h) [5] Z [] Z Z Z λ _ j=>?_
 have⟨c8,b6,h⟩:=bs h
 refine j.zo [(0,1)] (λ j=>?_) (hs:=sc Z (xt (α:=Stmt) (e:=109) Z)<|sZ 1 (r:=by exact sc Z (op_app0 Z kE43 T T b6)<|segZ))
 exact j.xD 0 1 h
theorem kF75_2:fldB prog 75 2 4=true:=by kernel_rfl
theorem kF75_1:fldB prog 75 1 1=true:=by kernel_rfl
instance iF119_7WbP:FldO prog 119 7 7:=⟨JM⟩
instance iF75_0WbP:FldO prog 75 0 0:=⟨kF75_0⟩
def Yl(x0:Runner)(x1:List Int)(x2:Str)(x3:Str):Option (Runner×Spec):=
if(!x0.warm.x.on)=true then none
else((W9 x0.warm.x.finder x0.warm.x.disk x1 x2 x3).bind λ a8=>
some ({ x0 with warm:=⟨{ x0.warm.x with finder:=a8.1 }⟩ },a8.2))
theorem zaR{x1 r}(h:Yl x0 x1 x2 x3=some r):FnS prog 148 (oRun bw) ⟨x0⟩ [dt x1,dt x2,dt x3] ⟨r.1⟩ (.frz (dt r.2)):=by
 refine fnSB (fn:=f148) 2 8 func148 Z Z (λ M G w0 b0 _ j=>wqw ?_)
 refine QY<|j.alA 4 QK [1,2,3] [0] @λ M2 _ _ b2 j=>?_
 refine Wz<|j.hdAd (s:=0) 2 true (λ _=>(Pb.fld owRunner.f7)) [8] λ j=>?_
 refine j.zo [(0,2),(8,4)] (λ j=>?_) (hs:=sZ 6 (r:=by exact sc Z (xLf (sb:=0) (((Pb.fld owRunner.f7).boxA).fld owWarmth.f0) Z T Z)<|segZ))
 have j:=j.ncf (s:=0) 2 [8]
 refine j.cq h (λ h=>?_) λ h=>?_
 ·cases h
 refine j.hdAd (s:=0) 2 true (λ _=>(Pb.fld owRunner.f7)) [8] λ j=>?_
 refine j.hdW (s:=0) 2 true (λ _=>(((Pb.fld owRunner.f7).boxA).fld owWarmth.f2)) [8] λ cs10 hS10 j=>?_
 refine j.hdW (s:=0) 2 true (λ _=>(((Pb.fld owRunner.f7).boxA).fld owWarmth.f1)) [8] λ cs11 hS11 j=>?_
 have⟨a8,a9,h⟩:=bs h
 refine j.held (SW b0 7 (ptA bw) bw 4 cs10 1 cs11) zN λ _ j=>?_
 have hS16:=j.SWn (s:=0) Z (.tail _ (.tail _ (.head _))) Z (.tail _ (.head _)) (.head _)
 refine j.tN 0 0 hS16 λ _ j=>?_
 refine j.tk (i:=1) Z Z (by decide +kernel) (by decide +kernel) (by decide +kernel) (λ _ _ _ h=>h) hS16 (yNc Z (j.st.has 28 _ Z)) λ _ j=>?_
 refine j.tk (i:=2) Z Z (by decide +kernel) (by decide +kernel) (by decide +kernel) (λ _ _ _ h=>h) hS16 (yFa Z JM (j.st.has 29 _ Z)) λ _ j=>?_
 refine j.tk (i:=3) Z Z (by decide +kernel) (by decide +kernel) (by decide +kernel) (λ _ _ _ h=>h) hS16 (yLd Z kT70 (j.st.has 30 _ Z) (λ _ h=>h.1)) λ _ j=>?_
 refine j.tk (i:=4) Z Z (by decide +kernel) (by decide +kernel) (by decide +kernel) (λ _ _ _ h=>h) hS16 (yNc Z (j.st.has 31 _ Z)) λ _ j=>?_
 refine j.tk (i:=5) Z Z (by decide +kernel) (by decide +kernel) (by decide +kernel) (λ _ _ _ h=>h) hS16 (yFa Z kF75_2 (j.st.has 32 _ Z)) λ _ j=>?_
 refine j.tk (i:=6) Z Z (by decide +kernel) (by decide +kernel) (by decide +kernel) (λ _ _ _ h=>h) hS16 (yLdA Z kT72 (j.st.has 33 _ Z) (hS10 Z) (λ _ h=>h.2.1)) λ _ j=>?_
 refine j.tkN (i:=7) (sb:=0) Z Z hS16 Z Z Z λ _ j=>?_
 refine j.tk (i:=8) Z Z (by decide +kernel) (by decide +kernel) (by decide +kernel) (λ _ _ _ h=>h) hS16 (yNc Z (j.st.has 35 _ Z)) λ _ j=>?_
 refine j.tk (i:=9) Z Z (by decide +kernel) (by decide +kernel) (by decide +kernel) (λ _ _ _ h=>h) hS16 (yFa Z JM (j.st.has 36 _ Z)) λ _ j=>?_
 refine j.tk (i:=10) Z Z (by decide +kernel) (by decide +kernel) (by decide +kernel) (λ _ _ _ h=>h) hS16 (yLd Z kT70 (j.st.has 37 _ Z) (λ _ h=>h.1)) λ _ j=>?_
 refine j.tk (i:=11) Z Z (by decide +kernel) (by decide +kernel) (by decide +kernel) (λ _ _ _ h=>h) hS16 (yNc Z (j.st.has 38 _ Z)) λ _ j=>?_
 refine j.tk (i:=12) Z Z (by decide +kernel) (by decide +kernel) (by decide +kernel) (λ _ _ _ h=>h) hS16 (yFa Z kF75_1 (j.st.has 39 _ Z)) λ _ j=>?_
 refine j.tk (i:=13) Z Z (by decide +kernel) (by decide +kernel) (by decide +kernel) (λ _ _ _ h=>h) hS16 (yLdA Z kT68 (j.st.has 40 _ Z) (hS11 Z) (λ _ h=>h.2.2)) λ _ j=>?_
 refine j.tkM (i:=14) (sb:=1) Z Z hS16 Z Z Z Z λ _ j=>?_
 refine j.tM 15 2 hS16 λ _ j=>?_
 refine j.tM 16 3 hS16 λ _ j=>?_
 have j:=j.addD 41 Z (j.rdW (s:=0) (((Pb.fld owRunner.f7).boxA).fld owWarmth.f1) (.head _) (Qc Z (hS11 Z)) Z)
 refine j.mvNA (s:=31) (sb:=0) 2 7 (Pb.fld owRunner.f7) (.tail _ (.tail _ (.head _))) (.tail _ (.head _)) Z Z [34,41,42,43,44] Z [8] Z Z Z Z λ _ H35 j=>?_
 refine j.mvG (s:=34) (sb:=31) 7 0 (Pb.fld owWarmth.f2) (.head _) (Qc Z (hS10 Z)) [41,42,43,44] [0,8] λ j=>?_
 have j:=j.upB (s:=31) 7 Z hS16.2.1 hS16.2.2 Z (λ _ h=>h) [0,8,34] Z
 have j:=(j.opt0 (X:=(λ b=>dbox (some b) 0 XX)) 10 6 Z).opt0 (X:=(λ b=>dnm oBF (oneB (some b)) ⟨yZ⟩ (.pointer (some ⟨b,0,none⟩)) [])) 9 5 Z
 have j:=j.sel [41,42,43,44] Z [(9,5),(10,6),(0,2),(31,7),(8,4),(34,0)] Z ⟨λ _ h=>h,⟨λ _ h=>h,⟨λ _ h=>h,⟨λ _ h=>h,⟨λ _ h=>h,⟨λ _ h=>h,trivial⟩⟩⟩⟩⟩⟩
 refine aHfl 1 2097151 21 22 (λ c1 c2=>bif c1&&c2 then[23] else[]) (T:=(λ c1 c2 a w=>∃ (M1:Nat->Prop) (g1 g2:Option Nat) (q0 q3 q4:Nat->Prop),g1.isSome=c1/\g2.isSome=c2/\Sx (Frm.chg w0 G) 56 M M1 [q4,oneB none,q0,oneB none,oneB (some b2),oneB g1,oneB g2,q3] [(47,dt a8.2)] [(9,5,dopt g1 (λ b=>dnm oBF (oneB (some b)) ⟨yZ⟩ (.pointer (some ⟨b,0,none⟩)) [])),(10,6,dopt g2 (λ b=>dbox (some b) 0 XX)),(0,2,dhk (oRun bw) (Ow.boxA bw oWa) q0 (.pointer (some ⟨b0,0,none⟩)) b0 7 (ptA bw) (λ z:Bx Warmth=>(⟨{ x0 with warm:=z }⟩:Bx Runner))),(31,7,dhb (Ow.box oWa) oFi q3 (ptA bw) bw 4 (λ z:Finder=>(⟨{ x0.warm.x with finder:=z }⟩:Bx Warmth)) 4 cs10 1 cs11),(8,4,dbox (some b2) 0 XX),(46,0,dow oFi q4 a8.1)] a w)) Z Z ?_ ?_ ?_ λ nP=>?_
 ·rintro c2 a w ⟨M1,g1,g2,q0,q3,q4,e1,e2,st⟩
  obtain rfl:g1=none:=by simpa using e1
  refine st.alcW (ow:=oFi) (d0:=yZ) 5 (owFinder.z Ow.row_z) [47] [10,0,31,8,46] λ b M2 a w st=>?_
  exact⟨st.SWh (s:=0) (t:=31),M2,some b,g2,q0,q3,q4,Z,e2,st.optI (X:=(λ b=>dnm oBF (oneB (some b)) ⟨yZ⟩ (.pointer (some ⟨b,0,none⟩)) [])) (λ k hk=>by injection hk with hk;exact hk.symm)⟩
 ·rintro c1 a w ⟨M1,g1,g2,q0,q3,q4,e1,e2,st⟩
  obtain rfl:g2=none:=by simpa using e2
  refine st.alloc 6 Z Z kZ137 QK (by simp) [47] Z [9,0,31,8,46] Z Z λ b M2 a w st=>?_
  exact⟨st.SWh (s:=0) (t:=31),M2,g1,some b,q0,q3,q4,e1,Z,(st.optI (X:=(λ b=>dbox (some b) 0 XX)) (λ k hk=>by injection hk with hk;exact hk.symm)).swp Z⟩
 ·rintro c1 c2 a w ⟨M1,g1,g2,q0,q3,q4,e1,e2,st⟩ i hi
  cases c1 with
  | false=>cases(hi:i∈([]:List Nat))
  |true=>cases c2 with
   | false=>cases(hi:i∈([]:List Nat))
   |true=>
    obtain rfl:i=23:=aF.1 hi
    obtain⟨bx1,rfl⟩:=dg.1 e1
    obtain⟨bx2,rfl⟩:=dg.1 e2
    have j:=(st.optS (s:=10) 6 Z Z [0,8,9,31,46] Z).optS (s:=9) 5 Z Z [0,8,10,31,46] Z
    refine wpOp_K Z ?_
    refine j.stO (sb:=9) (tv:=46) 5 0 Pb (zt Z) [47] [0,8,10,31] λ j=>?_
    refine⟨j.SWh (s:=0) (t:=31),?_⟩
    refine aK1 24 ?_
    refine j.stA 10 6 FldS.id (tp Z) [] [0,8,9,31] λ j=>?_
    refine aHN (j.SWh (s:=0) (t:=31)) ?_
    have j:=j.dnB (s:=31) 7 Z Z (λ _ h=>h) [0,8,9,10] Z
    refine aK0<|j.hdW (s:=9) 5 true (λ _=>Pb) [0,8,10,31] λ cs47 hS47 j=>?_
    refine j.zu 7 [(0,2),(8,4),(9,5),(10,6),(31,7)] (λ j=>?_) (hs:=sw Z (oM Z (opd_hk Z))<|sw Z (xNc Z T)<|sw Z (xFa Z JM T)<|sw Z (xLhk (sb:=0) Z kT70 T Z)<|sw Z (xLw (sb:=9) (.head _) Z (hS47 Z) Z U Z)<|sw Z (xNc Z T)<|sw Z (xFa Z kF75_2 T)<|.nil)
    refine j.mvG (s:=52) (sb:=9) 5 3 Pb (.head _) (Qc Z (hS47 Z)) [54] [0,8,10,31] λ j=>?_
    refine j.shA 31 52 7 3 (tp Z) [] [0,8,9,10] λ j=>?_
    have j:=j.toA (s:=31) 7 Z Z [0,8,9,10] Z
    refine Wz<|j.stG (s:=31) (sb:=0) 2 7 Z (by simp) (by simp) (by decide) Z Z (λ _ h=>h) (λ _ h=>h) [] Z [8,9,10] Z Z Z λ _ j=>?_
    refine QY<|j.zh 1 [(0,2),(8,4),(9,5)] λ j=>?_
    refine j.stA 8 4 FldS.id (tp Z) [] [0] (λ j=>Wz ?_)
    exact j.xC 0 2 h
 refine aHfl 5 131071 21 22 (λ _ _=>[17]) (T:=(λ c1 c2 a w=>∃ (M1:Nat->Prop) (g1 g2:Option Nat) (q0 q3 q4:Nat->Prop),g1.isSome=c1/\g2.isSome=c2/\Sx (Frm.chg w0 G) 56 M M1 [q4,oneB none,q0,oneB none,oneB (some b2),oneB g1,oneB g2,q3] [(41,dt x0.warm.x.disk),(42,dt x1),(43,dt x2),(44,dt x3)] [(9,5,dopt g1 (λ b=>dnm oBF (oneB (some b)) ⟨yZ⟩ (.pointer (some ⟨b,0,none⟩)) [])),(10,6,dopt g2 (λ b=>dbox (some b) 0 XX)),(0,2,dhk (oRun bw) (Ow.boxA bw oWa) q0 (.pointer (some ⟨b0,0,none⟩)) b0 7 (ptA bw) (λ z:Bx Warmth=>(⟨{ x0 with warm:=z }⟩:Bx Runner))),(31,7,dhb (Ow.box oWa) oFi q3 (ptA bw) bw 4 (λ z:Finder=>(⟨{ x0.warm.x with finder:=z }⟩:Bx Warmth)) 4 cs10 1 cs11),(8,4,dbox (some b2) 0 XX),(34,0,dow oFi q4 x0.warm.x.finder)] a w)) Z Z ?_ ?_ ?_ λ nN=>?_
 ·rintro c2 a w ⟨M1,g1,g2,q0,q3,q4,e1,e2,st⟩
  obtain rfl:g1=none:=by simpa using e1
  refine st.alcW (ow:=oFi) (d0:=yZ) 5 (owFinder.z Ow.row_z) [41,42,43,44] [10,0,31,8,34] λ b M2 a w st=>?_
  exact⟨st.SWh (s:=0) (t:=31),M2,some b,g2,q0,q3,q4,Z,e2,st.optI (X:=(λ b=>dnm oBF (oneB (some b)) ⟨yZ⟩ (.pointer (some ⟨b,0,none⟩)) [])) (λ k hk=>by injection hk with hk;exact hk.symm)⟩
 ·rintro c1 a w ⟨M1,g1,g2,q0,q3,q4,e1,e2,st⟩
  obtain rfl:g2=none:=by simpa using e2
  refine st.alloc 6 Z Z kZ137 QK (by simp) [41,42,43,44] Z [9,0,31,8,34] Z Z λ b M2 a w st=>?_
  exact⟨st.SWh (s:=0) (t:=31),M2,g1,some b,q0,q3,q4,e1,Z,(st.optI (X:=(λ b=>dbox (some b) 0 XX)) (λ k hk=>by injection hk with hk;exact hk.symm)).swp Z⟩
 ·rintro c1 c2 a w ⟨M1,g1,g2,q0,q3,q4,e1,e2,st⟩ i hi
  obtain rfl:i=17:=aF.1 hi
  refine wpOp_K Z ?_
  refine st.cT (sb:=34) (l:=[.tmp 41,.tmp 42,.tmp 43,.tmp 44]) 0 (.cons T (.cons T (.cons T (.cons T .nil)))) (spec_seenIn_w a9) [] [9,10,0,31,8] @λ q5 _ _ _ j=>?_
  have hz60:=j.SWh (s:=0) (t:=31)
  refine⟨hz60,?_⟩
  rw[lf_set (m':=262143)]
  refine j.tkMo (i:=18) (sb:=45) 0 Z Z (frB) (rdB) hz60 Z Z [9,10,0,31,8] Z Z λ _ j=>?_
  rw[lf_set (m':=524287)]
  refine j.tk20 (i:=19) (s:=27) 0 Z Z (frB) (rdB) (λ _ _ _ _ h=>h) hz60 Z Z (λ _ h=>h) [9,10,0,31,8] Z Z λ _ j=>?_
  rw[lf_set (m':=1048575)]
  refine j.tk21 (i:=20) (s:=27) Z Z (frB) (rdB) (λ _ _ _ _ h=>h) hz60 Z Z λ _ j=>?_
  rw[lf_set (m':=2097151)]
  exact nP c1 c2 _ _ ⟨_,g1,g2,q0,q3,q5,e1,e2,j.sel [47] Z [(9,5),(10,6),(0,2),(31,7),(8,4),(46,0)] Z ⟨λ _ h=>h,⟨λ _ h=>h,⟨λ _ h=>h,⟨λ _ h=>h,⟨λ _ h=>h,⟨λ _ h=>h,trivial⟩⟩⟩⟩⟩⟩⟩
 exact aHin nN ⟨_,none,none,_,_,_,Z,Z,j⟩ Z
