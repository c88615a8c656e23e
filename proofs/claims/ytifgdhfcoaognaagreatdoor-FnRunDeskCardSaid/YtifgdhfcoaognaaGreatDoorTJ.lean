import Derived.Test.YtifgdhfcoaognaaGreatDoorTO
import Derived.Test.YtifgdhfcoaognaaGreatDoorTH
import Derived.Test.YtifgdhfcoaognaaGreatDoorTB
import Derived.Test.YtifgdhfcoaognaaGreatDoorTM
namespace Go.Proofs.YtifgdhfcoaognaaGreatDoor
open Go.RowKit Tryz
attribute [local irreducible] OpRel OpdR
set_option maxRecDepth 10000
set_option maxHeartbeats 1600000
variable{x3:GVal}{x1:Int}{r x0:Runner}{x2:Str}
theorem XN:fldB prog 81 2 2=true:=by kernel_rfl
theorem kS77:slB prog 77 6=true:=by kernel_rfl
theorem kF81_3:fldB prog 81 3 3=true:=by kernel_rfl
theorem kF81_7:fldB prog 81 7 7=true:=by kernel_rfl
theorem kF81_0:fldB prog 81 0 0=true:=by kernel_rfl
instance iF119_5MbA:FldO prog 119 5 5:=⟨Ww⟩
instance iF39_0MbA:FldO prog 39 0 0:=⟨Xt⟩
instance iF81_0MbA:FldO prog 81 0 0:=⟨kF81_0⟩
instance iF81_2MbA:FldO prog 81 2 2:=⟨XN⟩
instance iF81_3MbA:FldO prog 81 3 3:=⟨kF81_3⟩
def XO(x0:Tree)(x1:List Int)(x2:Int):Option Runner:=
some (⟨x0,x1,[],[],[],0,x2,(⟨(⟨false,YA,Jg,[],0⟩:Warmth)⟩:Bx Warmth)⟩:Runner)
theorem zda{x0:Tree}{x1:List Int}{x2:Int}(h:XO x0 x1 x2=some r):FnN prog 87 [dt x0,dt x1,dt x2] (.ow oRun ⟨r⟩):=by
 refine fnN (fn:=f87) 4 func87 Z Z (λ M _ _ j=>wqw ?_)
 refine j.z1 (λ j=>?_) (hs:=sZ 1 (r:=by exact sc Z (oA Z JR)<|.nil))
 refine Ka ?_
 refine j.zg 5 (λ j=>?_) (hs:=sZ 3 (r:=by exact sc Z (yp (parts:=[]) (ns:=[1,3,3,1,1]) (zs:=zpWarmth) Z Z (λ w a hl=>by simp) (λ w a hl=>Warmth.parts (x:=(⟨false,YA,Jg,[],0⟩:Warmth)) ⟨Z,trivial⟩ (zrDisk _ _) (zrFinder _ _) Y7 ⟨Z,trivial⟩))<|segZ))
 have j:=j.addL (s:=11) (y:=dt (⟨(⟨false,YA,Jg,[],0⟩:Warmth)⟩:Bx Warmth)) (bx_ptr.2 (j.st.has 11 _ Z))
 refine j.bldW (ow:=(owRunner (Ow.row 119 (owGModR oAtt)) (Ow.row 126 (Ow.frz (α:=GEvent))) (Ow.row 3 (Ow.frz (α:=Int))))) (parts:=[(0,.tmp 7),(1,.tmp 8),(6,.tmp 9),(7,.tmp 11)]) (ns:=[1,1,1,1,1,1,1,1]) (zs:=zpRunner) (x:=(⟨x0,x1,[],[],[],0,x2,(⟨(⟨false,YA,Jg,[],0⟩:Warmth)⟩:Bx Warmth)⟩:Runner)) 3 [] (FA ⟨by decide,Rep.len (α:=Tree) (j.oc T)⟩ (FA ⟨by decide,Rep.len (α:=List Int) (j.oc T)⟩ (FA ⟨by decide,Rep.len (α:=Int) (j.oc T)⟩ (FA ⟨by decide,Rep.len (α:=Bx Warmth) (j.oc T)⟩ FN)))) (((owRunner (Ow.row 119 (owGModR oAtt)) (Ow.row 126 (Ow.frz (α:=GEvent))) (Ow.row 3 (Ow.frz (α:=Int))))).more (owRunner.mk (x:=(⟨x0,x1,[],[],[],0,x2,(⟨(⟨false,YA,Jg,[],0⟩:Warmth)⟩:Bx Warmth)⟩:Runner)) (j.oc T) (j.oc T) (Ow.row_z _ _) (Ow.row_z _ _) (Ow.row_z _ _) ⟨Z,trivial⟩ (j.oc T) (j.oc T) (λ b h1=>(λ h2=>h2.elim (λ h2=>h2.elim) (λ h2=>h2.elim))) (λ b h1=>(λ h2=>h2.elim))) (λ b=>(λ hb=>hb.elim (λ hb=>hb.elim) (λ hb=>hb.elim (λ hb=>hb.elim) (λ hb=>hb.elim))))) [] [] (@λ G3 _ _ j=>?_)
 have j:=j.gs (Gs':=[oneB none,oneB none,oneB none,G3])
 have j:=j.gn
 refine j.boxW 0 3 [] [] λ b7 _ _ _ _ j=>?_
 have j:=j.gn
 refine j.zh 1 [(6,0)] (λ j=>Kb ?_)
 have j:=j.unm (s:=6) 0 []
 exact j.rnO 0 (bx1 h)
def qj(x0:Runner)(x1:Str)(s4:Int):Option (Int⊕(Unit⊕(Runner×Int))):=
if(cmpI .lss s4 (x0.mods.length:Int))=true then((atI x0.mods s4).bind λ v12=>
(gO (decide (v12.name=x1) == true) (atI x0.mods s4)).bind λ v14=>
if(decide (v12.name=x1)&&v14.cached)=true then(some (.inr (.inr (x0,s4))))
else((i64 (s4+(1:Int))).bind λ v24=>
some (.inl v24)))
else(some (.inr (.inl ())))
def xo(x0:Runner)(x1:Str):Option (Runner×Int):=
Option.bind (α:=Unit⊕(Runner×Int)) (zP (λ s4=>qj x0 x1 s4) (0:Int)) (Sum.elim (λ _b2=>
some (x0,(-1:Int))) some)
theorem jd{x1:Str}{r:Runner×Int}(h:xo x0 x1=some r):FnS prog 121 oRun ⟨x0⟩ [dt x1] ⟨r.1⟩ (.frz (dt r.2)):=by
 refine fnSB (fn:=f121) 0 1 func121 Z Z (λ M G w0 b0 _ j=>wqw ?_)
 refine j.zo [(0,0)] (λ j=>za ?_)
 have⟨o2,p2,k2⟩:=bs h
 refine wqj (λ a w=>∃ b2,o2=.inl b2/\(∃ M1 Q,Sx (Frm.chg w0 G) 36 M M1 [Q] [] [(0,0,dnm oRun Q ⟨x0⟩ (.pointer (some ⟨b0,0,none⟩)) [])] a w)) ?_ ?_
 ·refine j.zo [(0,0)] λ j=>?_
  refine wql p2 (λ s4 a w=>∃ M1 Q,Sx (Frm.chg w0 G) 36 M M1 [Q] [(1,dt x1),(5,dt s4)] [(0,0,dnm oRun Q ⟨x0⟩ (.pointer (some ⟨b0,0,none⟩)) [])] a w) fx ?_
  rintro s4 z4 _ _ ⟨_,Q,j⟩ hs4 hx4
  have h:qj x0 x1 s4=some z4:=hs4
  unfold qj at h
  refine j.hdA 0 0 (Pb.fld owRunner.f2) [] λ g6 A6 _ hA6 j=>?_
  refine j.zo [(0,0)] (λ j=>?_) (hs:=sZ 5 (r:=by exact sc Z (xLe Z T)<|segZ))
  have j:=j.ncf (s:=0) 0 []
  refine j.cq h (λ h=>?_) λ h=>?_
  ·have⟨v12,p12,h⟩:=bs h
   have⟨v14,p14,h⟩:=bs h
   refine j.hdA 0 0 (Pb.fld owRunner.f2) [] λ g11 A11 _ hA11 j=>?_
   refine j.hdR (s:=0) 0 (decide (v12.name=x1) == true) (λ hg=>(Pb.fld owRunner.f2)) Z Z [] Z λ g13 A13 _ hA13 j=>?_
   refine j.zo [(0,0)] (λ j=>?_) (hs:=sc Z (oM Z U)<|
     sc Z (xNc Z T)<|
     sc Z (xFa Z XN T)<|
     sc Z (xLc (sb:=0) (.tail _ (.head _)) Z Z Z T Z)<|
     sc Z (oM Z T)<|
     sc Z (xIa (g:=g11) Z kS77 T T Z (λ h=>hA11 h Z) p12)<|
     sc Z (xFa Z zaJ T)<|
     sc Z (xLf (sb:=0) (((Pb.fld owRunner.f2).row (.tail _ (.head _)) Z (λ h=>hA11 h Z) p12).fld owGModR.f0) Z T Z)<|
     sc Z (oM Z T)<|
     sc Z (jx Z T T)<|
     sc Z (oM Z T)<|
     sg Z Z (λ hg=>oM Z U)<|
     sg Z Z (λ hg=>xNc Z V)<|
     sg Z Z (λ hg=>xFa Z XN V)<|
     sg Z Z (λ hg=>xLc (sb:=0) (.head _) hg Z Z V Z)<|
     sg Z Z (λ hg=>oM Z T)<|
     sg Z Z (λ hg=>xIa (g:=g13) Z kS77 V V Z (λ h=>hA13 h hg) (gh hg p14))<|
     sg Z Z (λ hg=>xFa Z kF119_3 V)<|
     sg Z Z (λ hg=>xLf (sb:=0) (((Pb.fld owRunner.f2).row (.head _) hg (λ h=>hA13 h hg) (gh hg p14)).fld owGModR.f3) Z V Z)<|
     sc Z (xk Z T T)<|.nil)
   have j:=j.ncf (s:=0) 0 []
   refine j.cq h (λ h=>?_) λ h=>?_
   ·refine j.zo [(0,0)] λ j=>?_
    have h:=lo h hx4
    have h:=jo h k2
    exact j.xF 0 0 h
   have⟨v24,p24,h⟩:=bs h
   exact j.zn [(0,0)] h
  have h:=lo h hx4
  exact flz h
 rintro _ _ ⟨b2,rfl,⟨_,Q,j⟩⟩
 have h:=jn k2
 refine j.zo [(0,0)] λ j=>?_
 exact j.xF 0 0 h
def x9(x0:Runner)(x1:Int)(x2:Str):Option Runner:=
(appO 24 x0.log ([(⟨x1,x2⟩:GEvent)]:List GEvent)).bind λ v8=>
some ({ x0 with log:=v8 })
theorem Zo(h:x9 x0 x1 x2=some r):FnS prog 160 oRun ⟨x0⟩ [dt x1,dt x2] ⟨r⟩ .gone:=by
 refine fnSB (fn:=f160) 0 2 func160 Z Z (λ M G _ b0 _ j=>wqw ?_)
 refine Ka ?_
 refine j.hdA 0 0 (Pb.fld owRunner.f3) [] λ g1 A1 _ hA1 j=>?_
 refine j.zh 9 [(0,0)] (λ j=>?_) (hs:=sZ 7 (r:=by exact sc Z (kD126_0_1 Z T T)<|segZ))
 refine j.mvG (s:=10) (sb:=0) 0 1 (Pb.fld owRunner.f3) (.head _) (yA Z Z) [6,14] [] λ j=>?_
 refine j.tipR (s:=10) 1 (by first | (simp;done) | exact oD rfl) [0] λ g5 j=>?_
 have⟨v8,p8,h⟩:=bs h
 refine j.apA 1 xv p8 [6] [0] λ g7 j=>?_
 refine j.zh 2 [(0,0),(15,1)] λ j=>?_
 have j:=j.tipW (s:=15) 1 [0]
 refine j.shA 0 15 0 1 (tp Z) [] [] (λ j=>Kb ?_)
 exact(j.rs0 (s:=0) 0 (bx1 h)).2
def ZD(x0:Runner)(x1:List Int)(x2:Str)(x3:Str):Option (Runner×Spec):=
if(!x0.warm.x.on)=true then((YG x0.t x1 x2 x3).bind λ v7=>
some (x0,v7))
else none
theorem QD{x1:List Int}{x3:Str}{r:Runner×Spec}(h:ZD x0 x1 x2 x3=some r):FnS prog 189 oRun ⟨x0⟩ [dt x1,dt x2,dt x3] ⟨r.1⟩ (.frz (dt r.2)):=by
 refine fnSB (fn:=f189) 1 5 func189 Z Z (λ M G _ b0 _ j=>wqw ?_)
 refine Ka ?_
 refine j.alA 2 WP [1,2,3] [0] λ b2 j=>?_
 have j:=j.gn
 refine Kb ?_
 refine j.zd [(0,1),(8,2)] h (λ j h=>?_) (λ j h=>?_) (hs:=sc Z (oM Z U)<|
  sc Z (xNc Z T)<|
  sc Z (xFa Z kF81_7 T)<|
  sc Z (OpRel.bx (xLf (sb:=0) (Pb.fld owRunner.f7) Z T Z))<|
  sc Z (xNcP Z T)<|
  sc Z (zQ Warmth.fld0 Z T)<|
  sc Z (zz Z T)<|
  sc Z (qe Z T)<|.nil)
 ·refine Ka ?_
  have⟨v7,p7,h⟩:=bs h
  refine j.zh 8 [(0,1),(8,2)] (λ j=>?_) (hs:=sZ 3 (r:=by exact sc Z (xLf (sb:=0) (Pb.fld owRunner.f0) Z T Z)<|sZ 3 (r:=by exact sc Z (oK (zbb p7))<|.nil)))
  refine j.stA 8 2 FldS.id (tp Z) [] [0] (λ j=>Kb ?_)
  exact j.xC 0 1 h
 cases h
def qL(x0:Runner)(x1:Int):Option (Runner×(List Stmt)):=
if(!x0.warm.x.on)=true then((atI x0.t.files x1).bind λ v5=>
some (x0,v5.body))
else none
theorem zbe{r:Runner×(List Stmt)}(h:qL x0 x1=some r):FnS prog 164 oRun ⟨x0⟩ [dt x1] ⟨r.1⟩ (.frz (dt r.2)):=by
 refine fnSB (fn:=f164) 0 2 func164 Z Z (λ M G _ b0 _ j=>wqw ?_)
 refine j.zo [(0,0)] (λ j=>?_) (hs:=sc Z (oA Z (jC (α:=Stmt)))<|.nil)
 refine j.zd [(0,0)] h (λ j h=>?_) (λ j h=>?_) (hs:=sc Z (oM Z U)<|
  sc Z (xNc Z T)<|
  sc Z (xFa Z kF81_7 T)<|
  sc Z (OpRel.bx (xLf (sb:=0) (Pb.fld owRunner.f7) Z T Z))<|
  sc Z (xNcP Z T)<|
  sc Z (zQ Warmth.fld0 Z T)<|
  sc Z (zz Z T)<|
  sc Z (qe Z T)<|.nil)
 ·have⟨v5,p5,h⟩:=bs h
  refine j.zo [(0,0)] (λ j=>?_) (hs:=sZ 4 (r:=by exact sc Z (xLf (sb:=0) ((Pb.fld owRunner.f0).fld Tree.z0) Z T Z)<|segZ))
  exact j.xD 0 0 h
 cases h
def jP(x0:List GAttr)(x1:Str)(s4:Int):Option (Int⊕(Unit⊕Int)):=
if(cmpI .lss s4 (x0.length:Int))=true then((atI x0 s4).bind λ v9=>
if(decide (v9.name=x1))=true then(some (.inr (.inr s4)))
else((i64 (s4+(1:Int))).bind λ v17=>
some (.inl v17)))
else(some (.inr (.inl ())))
def qM(x0:List GAttr)(x1:Str):Option Int:=
Option.bind (α:=Unit⊕Int) (zP (λ s4=>jP x0 x1 s4) (0:Int)) (Sum.elim (λ _b2=>
some (-1:Int)) some)
theorem XW{x0:List GAttr}{x1:Str}{r:Int}(h:qM x0 x1=some r):Fn prog 192 [dt x0,dt x1] (dt r):=by
 refine fq1 0 func192 λ M w0 _ j=>?_
 refine j.z1 (λ j=>za ?_)
 refine j.jb [] (λ _=>[]) h (λ o2 p2 k2=>?_) λ b2 _ _ j h=>?_
 ·refine j.z1 λ j=>?_
  refine wql p2 (λ s4 a w=>Sx (Frm.of w0) 20 M M [] [(0,dt x0),(1,dt x1),(5,dt s4)] [] a w) (j.sel0 [0,1,5]) ?_
  rintro s4 z4 _ _ j hs4 hx4
  have h:jP x0 x1 s4=some z4:=hs4
  unfold jP at h
  refine j.zc h (λ j h=>?_) λ j h=>?_
  ·have⟨v9,p9,h⟩:=bs h
   refine j.zc h (λ j h=>?_) λ j h=>?_
   ·exact j.ze (jo (lo h hx4) k2)
   have⟨v17,p17,h⟩:=bs h
   exact j.zn [] h
  have h:=lo h hx4
  exact flz h
 exact j.ze h
instance:Ct2 prog 192 dt dt dt qM:=⟨λ h=>XW h⟩
def wF(x0:Runner)(x1:Int)(x2:Str)(x3:GVal):Option Runner:=
(atI x0.mods x1).bind λ v3=>
(qM v3.attrs x2).bind λ v5=>
if cmpI .geq v5 0 then((atI x0.mods x1).bind λ v14=>
(atI v14.attrs v5).bind λ v16=>
some ({ x0 with mods:=(x0.mods.set x1.toNat ({ v14 with attrs:=(v14.attrs.set v5.toNat ({ v16 with value:=x3 })) })) }))
else((atI x0.mods x1).bind λ v35=>
(appO 32 v35.attrs ([(⟨x2,x3⟩:GAttr)]:List GAttr)).bind λ v48=>
(atI x0.mods x1).bind λ _v50=>
some ({ x0 with mods:=(x0.mods.set x1.toNat ({ v35 with attrs:=v48 })) }))
theorem Yd(h:wF x0 x1 x2 x3=some r):FnS prog 165 oRun ⟨x0⟩ [dt x1,dt x2,dt x3] ⟨r⟩ .gone:=by
 refine fnSB (fn:=f165) 0 3 func165 Z Z (λ M G _ b0 _ y=>wqw ?_)
 refine y.zo [(0,0)] λ y=>?_
 have⟨v3,p3,v5,p5,h⟩:=Kg h
 refine y.hdA 0 0 (Pb.fld owRunner.f2) [] λ g2 A2 _ hA2 y=>?_
 refine y.hdA 0 0 (((Pb.fld owRunner.f2).row (.head _) Z (λ h=>hA2 h Z) p3).fld owGModR.f5) [] λ g4 A4 _ hA4 y=>?_
 refine y.zo [(0,0)] (λ y=>?_) (hs:=sZ 5 (r:=by exact sc Z (xIa (g:=g2) Z kS77 T T Z (λ h=>hA2 h Z) p3)<|sZ 3 (r:=by exact sc Z (wB (l:=[.tmp 16,.tmp 17]) y.ob.sub Z (.cons (lendP (sb:=0) y.ob 0 (((Pb.fld owRunner.f2).row (.tail _ (.head _)) Z (λ h=>hA2 h Z) p3).fld owGModR.f5) (.head _) Z (yA Z Z) T Z) (.cons (qR y.ob.sub T) .nil)) (XW p5) Z5)<|segZ)))
 have y:=y.ncf (s:=0) 0 []
 refine y.zd [(0,0)] h (λ y h=>?_) λ y h=>?_
 ·have⟨v14,p14,h⟩:=bs h
  have⟨v16,p16,h⟩:=bs h
  refine y.hdA 0 0 (Pb.fld owRunner.f2) [] λ g13 A13 _ hA13 y=>?_
  refine y.hdA 0 0 (((Pb.fld owRunner.f2).row (.head _) Z (λ h=>hA13 h Z) p14).fld owGModR.f5) [] λ g15 A15 _ hA15 y=>?_
  refine y.zu 12 [(0,0)] (λ y=>?_) (hs:=sw Z (oM Z U)<|sw Z (xNc Z T)<|sw Z (xFa Z XN T)<|sw Z (xLc (sb:=0) (.tail _ (.head _)) Z Z Z T Z)<|sw Z (oM Z T)<|sw Z (xIa (g:=g13) Z kS77 T T Z (λ h=>hA13 h Z) p14)<|sw Z (xFa Z Ww T)<|sw Z (xLc (sb:=0) (.head _) Z Z Z T Z)<|sw Z (oM Z T)<|sw Z (zz Z T)<|sw Z (xIa (g:=g15) Z QC T T Z (λ h=>hA15 h Z) p16)<|sw Z (xFa Z zcj T)<|.nil)
  refine y.sfA 0 0 (((((Pb.fld owRunner.f2).row (.tail _ (.head _)) Z (λ h=>hA13 h Z) p14).fld owGModR.f5).row (.head _) Z (λ h=>hA15 h Z) p16).fld GAttr.z1) (tp Z) (tp Z) [] [] (λ y=>Kb ?_)
  exact(y.rs0 (s:=0) 0 (bx1 h)).1
 refine y.hdA 0 0 (Pb.fld owRunner.f2) [] λ g21 A21 c21 hA21 y=>?_
 refine y.held (λ w=>w.cell? ⟨b0,2,none⟩=some (.slice A21 (x0.mods.length) c21)) yc λ _ y=>?_
 refine y.tN 0 0 (y.cellS (sb:=0) (.head _)) λ _ y=>?_
 refine y.tk (i:=1) Z Z (by decide +kernel) (by decide +kernel) (by decide +kernel) (λ _ _ _ h=>h) (y.cellS (sb:=0) (.head _)) (yNc Z (y.st.has 33 _ Z)) λ _ y=>?_
 refine y.tk (i:=2) Z Z (by decide +kernel) (by decide +kernel) (by decide +kernel) (λ _ _ _ h=>h) (y.cellS (sb:=0) (.head _)) (yFa Z XN (y.st.has 34 _ Z)) λ _ y=>?_
 refine y.tk (i:=3) Z Z (by decide +kernel) (by decide +kernel) (by decide +kernel) (λ _ _ _ h=>h) (y.cellS (sb:=0) (.head _)) (yLd Z (y.st.has 35 _ Z)) λ _ y=>?_
 refine y.tkN (i:=5) (sb:=0) Z Z (y.cellS (sb:=0) (.head _)) Z Z Z λ _ y=>?_
 refine y.tk (i:=6) Z Z (by decide +kernel) (by decide +kernel) (by decide +kernel) (λ _ _ _ h=>h) (y.cellS (sb:=0) (.head _)) (yNc Z (y.st.has 38 _ Z)) λ _ y=>?_
 refine y.tk (i:=7) Z Z (by decide +kernel) (by decide +kernel) (by decide +kernel) (λ _ _ _ h=>h) (y.cellS (sb:=0) (.head _)) (yFa Z XN (y.st.has 39 _ Z)) λ _ y=>?_
 refine y.tk (i:=8) Z Z (by decide +kernel) (by decide +kernel) (by decide +kernel) (λ _ _ _ h=>h) (y.cellS (sb:=0) (.head _)) (yLd Z (y.st.has 40 _ Z)) λ _ y=>?_
 refine y.tkM (i:=4) (sb:=1) Z Z (y.cellS (sb:=0) (.head _)) Z Z Z Z λ _ y=>?_
 refine y.tM 9 1 (y.cellS (sb:=0) (.head _)) λ _ y=>?_
 refine y.tM 13 2 (y.cellS (sb:=0) (.head _)) λ _ y=>?_
 refine y.mvN (s:=41) (sb:=0) 0 1 (Pb.fld owRunner.f2) (.head _) Z (yA Z Z) Z Z (by simp) (by simp) (by decide) Z (λ _ h=>h) [1,2,7,8,20,33,34,35,36,37,38,39,40,42,46] Z [] Z Z Z Z (by decide) λ _ H34 y=>?_
 have⟨v35,p35,v48,p48,h⟩:=Kg h
 have⟨v50,p50,h⟩:=bs h
 refine y.tkIN (i:=10) (s2:=41) (y.hkS (sb:=0)) kS77 (tp Z) (λ h=>hA21 h Z) p35 λ _ y=>?_
 refine y.tk (i:=11) Z Z (by decide +kernel) (by decide +kernel) (by decide +kernel) (λ _ _ _ h=>h) (y.hkS (sb:=0)) (yFa Z Ww (y.st.has 43 _ Z)) λ _ y=>?_
 refine aH2 (i:=12) (j:=14) Z Z ?_ ?_
 ·refine y.hdA 41 1 ((PV.root.row Z (λ h=>hA21 h Z) p35).fld owGModR.f5) [0] λ g60 A60 _ hA60 y=>?_
  refine y.zh 1 [(0,0),(41,1)] (λ y=>?_) (hs:=sc Z (xLc (sb:=41) (.head _) Z Z Z T Z)<|.nil)
  refine aHN (y.hkS (sb:=0)) ?_
  refine aK1 14 ?_
  refine y.zh 1 [(0,0),(41,1)] λ y=>?_
  refine aHN (y.hkS (sb:=0)) ?_
  refine y.tkB (i:=15) (parts:=[(0,.tmp 46),(1,.tmp 47)]) (ns:=[1,2]) (zs:=zpGAttr) Z Z (y.hkS (sb:=0)) Z Z kB206 kC206 (λ w a hl=>FA ⟨by decide,Rep.len (α:=Str) (OpdR.cells (tp Z) hl)⟩ (FA ⟨by decide,Rep.len (α:=GVal) (OpdR.cells (tp Z) hl)⟩ FN)) (λ w a hl=>GAttr.parts (x:=(⟨x2,x3⟩:GAttr)) (OpdR.cells (tp Z) hl) (OpdR.cells (tp Z) hl)) (λ _ y=>?_)
  refine aK1 16 ?_
  refine y.zh 1 [(0,0),(41,1)] λ y=>?_
  refine aHN (y.hkS (sb:=0)) ?_
  refine aK1 17 ?_
  refine y.mvG (s:=45) (sb:=41) 1 2 ((PV.root.row Z (λ h=>hA21 h Z) p35).fld owGModR.f5) (.head _) (yA Z Z) [36,37,49] [0] λ y=>?_
  refine y.tipR (s:=45) 2 (by first | (simp;done) | exact oD rfl) [0,41] λ g67 y=>?_
  refine y.apA 2 xv p48 [36,37] [0,41] λ g69 y=>?_
  refine aHN (y.hkS (sb:=0)) ?_
  refine aK1 18 ?_
  refine y.zh 1 [(0,0),(41,1),(50,2)] (λ y=>?_) (hs:=sc Z (xIa (g:=g21) Z kS77 T T Z (λ h=>hA21 h Z) p50)<|.nil)
  refine aHN (y.hkS (sb:=0)) ?_
  refine aK1 19 ?_
  refine y.zh 1 [(0,0),(41,1),(50,2)] λ y=>?_
  refine aHN (y.hkS (sb:=0)) ?_
  refine aK1 20 ?_
  have y:=y.tipW (s:=50) 2 [0,41]
  refine y.shA 41 50 1 2 (tp Z) [] [0] λ y=>?_
  refine aHN (y.hkS (sb:=0)) ?_
  refine aK0 ?_
  refine y.stG (s:=41) (sb:=0) 0 1 Z (by simp) (by simp) (by decide) Z Z (λ _ h=>h) (λ _ h=>h) [] Z [] Z Z Z λ _ y=>?_
  exact(y.rs0 (s:=0) 0 (bx1 h)).2
 ·refine y.zh 1 [(0,0),(41,1)] λ y=>?_
  refine aHN (y.hkS (sb:=0)) ?_
  refine y.tkB (i:=15) (parts:=[(0,.tmp 46),(1,.tmp 47)]) (ns:=[1,2]) (zs:=zpGAttr) Z Z (y.hkS (sb:=0)) Z Z kB206 kC206 (λ w a hl=>FA ⟨by decide,Rep.len (α:=Str) (OpdR.cells (tp Z) hl)⟩ (FA ⟨by decide,Rep.len (α:=GVal) (OpdR.cells (tp Z) hl)⟩ FN)) (λ w a hl=>GAttr.parts (x:=(⟨x2,x3⟩:GAttr)) (OpdR.cells (tp Z) hl) (OpdR.cells (tp Z) hl)) (λ _ y=>?_)
  refine aK2 12 16 ?_ ?_
  ·refine y.hdA 41 1 ((PV.root.row Z (λ h=>hA21 h Z) p35).fld owGModR.f5) [0] λ g77 A77 _ hA77 y=>?_
   refine y.zh 1 [(0,0),(41,1)] (λ y=>?_) (hs:=sc Z (xLc (sb:=41) (.head _) Z Z Z T Z)<|.nil)
   refine aHN (y.hkS (sb:=0)) ?_
   refine aK1 16 ?_
   refine y.zh 1 [(0,0),(41,1)] λ y=>?_
   refine aHN (y.hkS (sb:=0)) ?_
   refine aK1 17 ?_
   refine y.mvG (s:=45) (sb:=41) 1 2 ((PV.root.row Z (λ h=>hA21 h Z) p35).fld owGModR.f5) (.head _) (yA Z Z) [36,37,49] [0] λ y=>?_
   refine y.tipR (s:=45) 2 (by first | (simp;done) | exact oD rfl) [0,41] λ g82 y=>?_
   refine y.apA 2 xv p48 [36,37] [0,41] λ g84 y=>?_
   refine aHN (y.hkS (sb:=0)) ?_
   refine aK1 18 ?_
   refine y.zh 1 [(0,0),(41,1),(50,2)] (λ y=>?_) (hs:=sc Z (xIa (g:=g21) Z kS77 T T Z (λ h=>hA21 h Z) p50)<|.nil)
   refine aHN (y.hkS (sb:=0)) ?_
   refine aK1 19 ?_
   refine y.zh 1 [(0,0),(41,1),(50,2)] λ y=>?_
   refine aHN (y.hkS (sb:=0)) ?_
   refine aK1 20 ?_
   have y:=y.tipW (s:=50) 2 [0,41]
   refine y.shA 41 50 1 2 (tp Z) [] [0] λ y=>?_
   refine aHN (y.hkS (sb:=0)) ?_
   refine aK0 ?_
   refine y.stG (s:=41) (sb:=0) 0 1 Z (by simp) (by simp) (by decide) Z Z (λ _ h=>h) (λ _ h=>h) [] Z [] Z Z Z λ _ y=>?_
   exact(y.rs0 (s:=0) 0 (bx1 h)).2
  ·refine y.zh 1 [(0,0),(41,1)] λ y=>?_
   refine aHN (y.hkS (sb:=0)) ?_
   refine aK1 12 ?_
   refine y.hdA 41 1 ((PV.root.row Z (λ h=>hA21 h Z) p35).fld owGModR.f5) [0] λ g91 A91 _ hA91 y=>?_
   refine y.zh 1 [(0,0),(41,1)] (λ y=>?_) (hs:=sc Z (xLc (sb:=41) (.head _) Z Z Z T Z)<|.nil)
   refine aHN (y.hkS (sb:=0)) ?_
   refine aK1 17 ?_
   refine y.mvG (s:=45) (sb:=41) 1 2 ((PV.root.row Z (λ h=>hA21 h Z) p35).fld owGModR.f5) (.head _) (yA Z Z) [36,37,49] [0] λ y=>?_
   refine y.tipR (s:=45) 2 (by first | (simp;done) | exact oD rfl) [0,41] λ g95 y=>?_
   refine y.apA 2 xv p48 [36,37] [0,41] λ g97 y=>?_
   refine aHN (y.hkS (sb:=0)) ?_
   refine aK1 18 ?_
   refine y.zh 1 [(0,0),(41,1),(50,2)] (λ y=>?_) (hs:=sc Z (xIa (g:=g21) Z kS77 T T Z (λ h=>hA21 h Z) p50)<|.nil)
   refine aHN (y.hkS (sb:=0)) ?_
   refine aK1 19 ?_
   refine y.zh 1 [(0,0),(41,1),(50,2)] λ y=>?_
   refine aHN (y.hkS (sb:=0)) ?_
   refine aK1 20 ?_
   have y:=y.tipW (s:=50) 2 [0,41]
   refine y.shA 41 50 1 2 (tp Z) [] [0] λ y=>?_
   refine aHN (y.hkS (sb:=0)) ?_
   refine aK0 ?_
   refine y.stG (s:=41) (sb:=0) 0 1 Z (by simp) (by simp) (by decide) Z Z (λ _ h=>h) (λ _ h=>h) [] Z [] Z Z Z λ _ y=>?_
   exact(y.rs0 (s:=0) 0 (bx1 h)).2
def Zj(x0:GMod):Option Str:=
if cmpI .eql x0.kind 1 then((xi x0.name).bind λ v5=>
some v5)
else(some x0.name)
theorem JX{x0:GMod}{r:Str}(h:Zj x0=some r):Fn prog 228 [dt x0] (dt r):=by
 refine fq1 0 func228 λ M _ _ j=>?_
 refine j.z1 λ j=>?_
 refine j.zc h (λ j h=>?_) λ j h=>?_
 ·have⟨v5,p5,h⟩:=bs h
  exact j.ze h
 exact j.ze h
instance:Ct1 prog 228 dt dt Zj:=⟨λ h=>JX h⟩
def Xw(x0:GVal):Option Int:=
if cmpI .eql x0.kind 1 then(some (-1:Int))
else(some x0.num)
theorem zcn{x0:GVal}{r:Int}(h:Xw x0=some r):Fn prog 215 [dt x0] (dt r):=by
 refine fq1 0 func215 λ M _ _ j=>?_
 refine j.z1 λ j=>?_
 refine j.zc h (λ j h=>?_) λ j h=>?_
 ·exact j.ze h
 exact j.ze h
instance:Ct1 prog 215 dt dt Xw:=⟨λ h=>zcn h⟩
theorem kF81_1:fldB prog 81 1 1=true:=by kernel_rfl
theorem kN121:fnB prog 121=true:=by kernel_rfl
instance iF81_1MbB:FldO prog 81 1 1:=⟨kF81_1⟩
def jI(x0:Runner)(x1:Str):Option (Runner×Spec):=
(xi x1).bind λ v3=>
if(decide (v3=(⟨[]⟩:Str)))=true then((ZD x0 x0.path (⟨[]⟩:Str) x1).bind λ v11=>
some (v11.1,v11.2))
else((xo x0 v3).bind λ v17=>
(gO (cmpI .lss v17.2 0 == false) (atI v17.1.mods v17.2)).bind λ v21=>
if(cmpI .lss v17.2 0||cmpI .eql v21.kind 1)=true then((Jx).bind λ v27=>
some (v17.1,v27))
else((atI v17.1.mods v17.2).bind λ v33=>
(Zn x1).bind λ v34=>
(ZD v17.1 v33.roots v3 v34).bind λ v39=>
some (v39.1,v39.2)))
theorem Jz{x1:Str}{r:Runner×Spec}(h:jI x0 x1=some r):FnS prog 162 oRun ⟨x0⟩ [dt x1] ⟨r.1⟩ (.frz (dt r.2)):=by
 unfold jI at h
 refine fnSB (fn:=f162) 0 2 func162 Z Z (λ M G _ b0 _ j=>Kc ?_)
 refine Ka ?_
 refine j.alA 1 WP [1] [0] (λ b2 j=>Kb ?_)
 refine za ?_
 obtain⟨v3,p3,h⟩:=bsW h XU
 refine j.sqA [1,5] [(0,0),(4,1)] (λ j=>Kc ?_)
 refine j.sqA [1,5,10] [(0,0),(4,1)] λ j=>?_
 refine j.cs h (λ _ h=>?_) λ _ h=>?_
 ·refine Kc ?_
  refine Ka ?_
  refine j.segB 6 (sP 4 (r:=by exact sc Z (xLf (sb:=0) (Pb.fld owRunner.f1) Z T Z)<|segC)) [11,15,16] [(0,0),(4,1)] λ j=>?_
  have⟨v11,p11,h⟩:=bs h
  refine j.cNA 0 0 (QD p11) [] [4] λ j=>?_
  refine j.stA 4 1 FldS.id (tp Z) [] [0] (λ j=>Kb ?_)
  refine za ?_
  refine wp_ret (zK ?_)
  exact j.xC 0 0 h
 refine wp_skip ?_
 refine za ?_
 refine Kc ?_
 refine Ka ?_
 refine j.segC 2 [1,5,18,19] [(0,0),(4,1)] λ j=>?_
 have⟨v17,p17,h⟩:=bs h
 refine j.cNA 0 0 (jd p17) [1,5] [4] λ j=>?_
 refine j.segA 1 [1,5,6] [(0,0),(4,1)] (λ j=>Kb ?_)
 refine za ?_
 refine Kc ?_
 have⟨v21,p21,h⟩:=bs h
 refine j.hdR (s:=0) 0 (cmpI .lss v17.2 (0:Int) == false) (λ hg=>(Pb.fld owRunner.f2)) Z Z [4] Z λ g20 A20 _ hA20 j=>?_
 refine j.sqB (sc Z (oM Z T)<|
  sc Z (oCI Z T cI)<|
  sc Z (oM Z T)<|
  sg Z Z (λ hg=>oM Z U)<|
  sg Z Z (λ hg=>xNc Z V)<|
  sg Z Z (λ hg=>xFa Z XN V)<|
  sg Z Z (λ hg=>xLc (sb:=0) (.head _) hg Z Z V Z)<|
  sg Z Z (λ hg=>oM Z T)<|
  sg Z Z (λ hg=>xIa (g:=g20) Z kS77 V V Z (λ h=>hA20 h hg) (gh hg p21))<|
  sg Z Z (λ hg=>xFa Z kF119_1 V)<|
  sg Z Z (λ hg=>xLf (sb:=0) (((Pb.fld owRunner.f2).row (.head _) hg (λ h=>hA20 h hg) (gh hg p21)).fld owGModR.f1) Z V Z)<|
  sg Z Z (λ hg=>oCI Z V cI)<|
  sc Z (Za Z T T)<|.nil) [1,5,6,33] [(0,0),(4,1)] (λ j=>?_)
 have j:=j.ncf (s:=0) 0 [4]
 refine j.cs h (λ _ h=>?_) λ _ h=>?_
 ·refine Kc ?_
  refine Ka ?_
  obtain⟨v27,p27,h⟩:=bsW h spec_noSpec_w
  refine j.segA 1 [34] [(0,0),(4,1)] λ j=>?_
  refine j.stA 4 1 FldS.id (tp Z) [] [0] (λ j=>Kb ?_)
  refine za ?_
  refine wp_ret (zK ?_)
  exact j.xC 0 0 h
 refine wp_skip ?_
 refine za ?_
 refine Kc ?_
 have⟨v33,p33,v34,p34,h⟩:=Kg h
 refine j.hdA 0 0 (Pb.fld owRunner.f2) [4] λ g32 A32 _ hA32 j=>?_
 refine j.drnA (D:=[_,_,_,_,_,_,_,_,_,_,_,_]) yc 12 [[(0,nS)],[(0,nS)],[(36,1)],[(37,2)],[(38,3),(0,nS)],[(6,nS)],[(39,4),(40,5)],[(41,6)],[(42,7),(0,nS)],[(5,nS)],[(1,nS)],[(45,10)],[(35,0),(43,8),(44,9),(46,11)],[(4,nS),(47,12)]] [35,43,44,46] [(0,0),(4,1)] (λ _ _ j=>?_) (hs:=rc Z Z (oM Z U)<|
  rc Z Z (oM Z U)<|
  rc Z Z (xNc Z T)<|
  rc Z Z (xFa Z XN T)<|
  rc Z Z (xLc (sb:=0) (.head _) Z Z Z T Z)<|
  rc Z Z (oM Z T)<|
  rc Z Z (xIa (g:=g32) Z kS77 T T Z (λ h=>hA32 h Z) p33)<|
  rc Z Z (xFa Z kF119_2 T)<|
  rc Z Z (xLf (sb:=0) (((Pb.fld owRunner.f2).row (.head _) Z (λ h=>hA32 h Z) p33).fld owGModR.f2) Z T Z)<|
  rc Z Z (oM Z T)<|
  rc Z Z (oM Z T)<|
  rc Z Z (zA (l:=[.tmp 45]) Z (.cons T .nil) (zad p34))<|.nil)
 have⟨v39,p39,h⟩:=bs h
 refine j.cNA 0 0 (QD p39) [] [4] λ j=>?_
 refine j.stA 4 1 FldS.id (tp Z) [] [0] (λ j=>Kb ?_)
 refine za ?_
 refine wp_ret ?_
 exact j.xC 0 0 h
def jk(x1:Int)(s4:Str×Int):Option ((Str×Int)⊕(Str⊕(Str×Bool))):=
if cmpI .lss s4.2 x1 then(if(decide (s4.1=(⟨[]⟩:Str)))=true then(some (.inr (.inr ((⟨[]⟩:Str),false))))
else((xi s4.1).bind λ v15=>
(i64 (s4.2+(1:Int))).bind λ v18=>
some (.inl (v15,v18))))
else(some (.inr (.inl s4.1)))
def X8(x0:Str)(x1:Int):Option (Str×Bool):=
Option.bind (α:=Str⊕(Str×Bool)) (zP (λ s4=>jk x1 s4) (x0,(1:Int))) (Sum.elim (λ b2=>
some (b2,decide (b2≠(⟨[]⟩:Str)))) some)
theorem spec_base_w{x0:Str}{r:Str×Bool}(h:X8 x0 x1=some r):Fn prog 236 [dt x0,dt x1] (dtup [dt r.1,dt r.2]):=by
 refine fq1 0 func236 λ M w0 _ j=>?_
 refine j.z1 (λ j=>za ?_)
 refine j.jb [] (λ b2=>[(0,dt b2)]) h (λ o2 p2 k2=>?_) λ b2 _ _ j h=>?_
 ·refine j.z1 λ j=>?_
  refine wql p2 (λ s4 a w=>Sx (Frm.of w0) 19 M M [] [(0,dt s4.1),(1,dt x1),(6,dt s4.2)] [] a w) (j.sel0 [0,1,6]) ?_
  rintro s4 z4 _ _ j hs4 hx4
  have h:jk x1 s4=some z4:=hs4
  unfold jk at h
  refine j.zc h (λ j h=>?_) λ j h=>?_
  ·refine j.zc h (λ j h=>?_) λ j h=>?_
   ·refine j.z1 λ j=>?_
    have h:=lo h hx4
    have h:=jo h k2
    cases h
    exact j.ret2 (j.frozen (t:=4)) (j.frozen (t:=5)) ⟨Z,Z⟩
   have⟨v15,p15,h⟩:=bs h
   refine j.z1 λ j=>?_
   have⟨v18,p18,h⟩:=bs h
   exact j.zn [] h
  have h:=lo h hx4
  exact flz h
 refine j.z1 λ j=>?_
 cases h
 exact j.ret2 (j.frozen (t:=4)) (j.frozen (t:=5)) ⟨Z,Z⟩
instance:Ct2 prog 236 dt dt (λ r=>dtup [dt r.1,dt r.2]) X8:=⟨λ h=>spec_base_w h⟩
def Ye(x0:Str)(x1:Int)(x2:Str):Option Str:=
if cmpI .eql x1 0 then(some x2)
else((X8 x0 x1).bind λ v6=>
if(!v6.2)=true then(some (⟨[]⟩:Str))
else(if(decide (x2=(⟨[]⟩:Str)))=true then(some v6.1)
else((Zs v6.1 x2).bind λ v17=>
some v17)))
theorem zag{x0:Str}{r:Str}(h:Ye x0 x1 x2=some r):Fn prog 227 [dt x0,dt x1,dt x2] (dt r):=by
 refine fq1 0 func227 λ M _ _ j=>?_
 refine j.z1 λ j=>?_
 refine j.zc h (λ j h=>?_) λ j h=>?_
 ·exact j.ze h
 have⟨v6,p6,h⟩:=bs h
 refine j.z1 λ j=>?_
 refine j.zc h (λ j h=>?_) λ j h=>?_
 ·exact j.ze h
 refine j.zc h (λ j h=>?_) λ j h=>?_
 ·exact j.ze h
 have⟨v17,p17,h⟩:=bs h
 exact j.ze h
instance:Ct3 prog 227 dt dt dt dt Ye:=⟨λ h=>zag h⟩
end Go.Proofs.YtifgdhfcoaognaaGreatDoor
