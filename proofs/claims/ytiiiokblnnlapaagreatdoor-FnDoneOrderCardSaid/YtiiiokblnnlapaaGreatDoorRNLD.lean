/-
  Models of functions, and their walks: printed by a program of our own (wip/mxo.py).
  Models of functions, and their walks: printed by a program of our own (wip/mxo.py).
-/
import Derived.Test.YtiiiokblnnlapaaGreatDoorRBLD
import Derived.Test.YtiiiokblnnlapaaGreatDoorRJLD
import Derived.Test.YtiiiokblnnlapaaGreatDoorROLD
namespace Go.Proofs.YtiiiokblnnlapaaGreatDoor
open Go.RowKit
attribute [local irreducible] OpRel OpdR
set_option maxRecDepth 10000
set_option maxHeartbeats 1600000
theorem kF83_6:fldB Tryz.prog 83 6 6=true:=by kernel_rfl
theorem qQ:fldB Tryz.prog 83 5 5=true:=by kernel_rfl
theorem kN250:fnB Tryz.prog 250=true:=by kernel_rfl
theorem kN178:fnB Tryz.prog 178=true:=by kernel_rfl
theorem kN142:fnB Tryz.prog 142=true:=by kernel_rfl
theorem kN218:fnB Tryz.prog 218=true:=by kernel_rfl
theorem kN273:fnB Tryz.prog 273=true:=by kernel_rfl
theorem kN274:fnB Tryz.prog 274=true:=by kernel_rfl
theorem kF83_4:fldB Tryz.prog 83 4 4=true:=by kernel_rfl
theorem kN275:fnB Tryz.prog 275=true:=by kernel_rfl
theorem kN286:fnB Tryz.prog 286=true:=by kernel_rfl
theorem kN248:fnB Tryz.prog 248=true:=by kernel_rfl
theorem kN287:fnB Tryz.prog 287=true:=by kernel_rfl
theorem kN215:fnB Tryz.prog 215=true:=by kernel_rfl
theorem kN214:fnB Tryz.prog 214=true:=by kernel_rfl
theorem kI67:sliB Tryz.prog 67 111 6=true:=by kernel_rfl
theorem kN217:fnB Tryz.prog 217=true:=by kernel_rfl
theorem kN216:fnB Tryz.prog 216=true:=by kernel_rfl
def y6(R:Rec)(x1:Int)(x2:List Stmt)(s2:Runner×Int):Option ((Runner×Int)⊕Runner):=
if(cmpI .lss s2.2 (x2.length:Int))=true then(if(cmpI .eql s2.1.left (0:Int))=true then(some (.inr ({ s2.1 with fin:=(6:Int) })))
else((i64 (s2.1.left - (1:Int))).bind λ v13=>
(atI x2 s2.2).bind λ v17=>
(R.spec_runStmt ({ s2.1 with left:=v13 }) x1 v17).bind λ v21=>
if(cmpI .neq v21.fin (0:Int))=true then(some (.inr v21))
else((i64 (s2.2+(1:Int))).bind λ v27=>
some (.inl (v21,v27)))))
else(some (.inr s2.1))
def ZB(R:Rec)(x0:Runner)(x1:Int)(x2:List Stmt):Option Runner:=
zX (λ s2=>y6 R x1 x2 s2) (x0,(0:Int))
theorem Q2{R:Rec}(hR:R.ok){x0:Runner}{x1:Int}{x2:List Stmt}{r:Runner}(h:ZB R x0 x1 x2=some r):FnS Tryz.prog 216 oRun ⟨x0⟩ [dt x1,dt x2] ⟨r⟩ .gone:=by
 unfold ZB at h
 refine fnSB (fn:=Tryz.f216) 0 1 Tryz.func216 rfl (of_decide_eq_true rfl) rfl (λ M G w0 b0 _ st0=>?_)
 refine st0.sqA [1,2,6] [(0,0)] (λ _ _ st1=>?_)
 refine wp_block ?_
 refine zO h (λ s2 a w=>∃ M1 q2_0,Sx (Frm.chg w0 G) 41 M M1 [q2_0] [(1,dt x1),(2,dt x2),(6,dt s2.2)] [(0,0,dnm oRun q2_0 ⟨s2.1⟩ (.pointer (some ⟨b0,0,none⟩)) [])] a w) ⟨_,_,st1.sel [1,2,6] rfl [(0,0)] rfl iT⟩ ?_
 rintro s2 z2 a2 w2 ⟨M2,q2_0,st2⟩ hs2 hx2
 have h3:y6 R x1 x2 s2=some z2:=hs2
 unfold y6 at h3
 refine wp_seq ?_
 refine st2.sqA [1,2,6,10] [(0,0)] (λ _ _ st4=>?_)
 refine st4.cs rfl h3 (λ _ h5=>?_) (λ _ h6=>?_)
 ·
  refine wp_skip (za (wp_seq (wp_block (wp_seq ?_))))
  refine st4.sqB (sc rfl (oM rfl (zg rfl))<|sc rfl (xNc rfl (tp rfl))<|sc rfl (xFa rfl kF83_6 (tp rfl))<|sc rfl (xLf (sb:=0) ((PV.root.box rfl).fld owRunner.f6) rfl kT3 (tp rfl) rfl)<|sc rfl (oCI rfl (tp rfl) cI)<|.nil) [1,2,6,17] [(0,0)] (λ _ _ st7=>?_)
  refine st7.cs rfl h5 (λ _ h8=>?_) (λ _ h9=>?_)
  ·
   refine wp_seq (wp_region_list ?_)
   refine st7.segB 3 (sc rfl (oM rfl (zg rfl))<|sc rfl (xNc rfl (tp rfl))<|sc rfl (xFa rfl qQ (tp rfl))<|.nil) [20] [(0,0)] (λ _ _ st10=>?_)
   refine st10.stF (sb:=0) 0 ((PV.root.box rfl).fld owRunner.f5) rfl rfl rfl kT3 (by simp) (tp rfl) cI rfl rfl iI [] rfl [] rfl rfl (λ _ st11=>?_)
   refine wpList_nil (za ?_)
   refine wp_ret (zd (zr (zd (zd (zr ?_)))))
   have h12:=lo h8 hx2
   exact(st11.rs0 (s:=0) 0 rfl rfl iI (bx1 h12)).1
  refine wp_skip (za (wp_seq (wp_region_list ?_)))
  obtain⟨v13,p13,h14⟩:=bs h9
  refine st7.segB 8 (sc rfl (oM rfl (zg rfl))<|sc rfl (oM rfl (zg rfl))<|sc rfl (xNc rfl (tp rfl))<|sc rfl (xFa rfl kF83_6 (tp rfl))<|sc rfl (xLf (sb:=0) ((PV.root.box rfl).fld owRunner.f6) rfl kT3 (tp rfl) rfl)<|sc rfl (xAr rfl (tp rfl) cI p13)<|sc rfl (xNc rfl (tp rfl))<|sc rfl (xFa rfl kF83_6 (tp rfl))<|.nil) [1,2,6,26,28] [(0,0)] (λ _ _ st15=>?_)
  refine st15.stF (sb:=0) 0 ((PV.root.box rfl).fld owRunner.f6) rfl rfl rfl kT3 (by simp) (tp rfl) (tp rfl) rfl rfl iI [1,2,6] rfl [] rfl rfl (λ _ st16=>?_)
  refine wpList_nil (za (wp_seq (wp_region_list ?_)))
  obtain⟨v17,p17,h18⟩:=bs h14
  refine st16.segB 6 (sc rfl (oM rfl (zg rfl))<|sc rfl (oM rfl (tp rfl))<|sc rfl (oM rfl (tp rfl))<|sc rfl (oM rfl (tp rfl))<|sc rfl (xIdx rfl kS92 (tp rfl) (tp rfl) p17)<|sc rfl (ze rfl wx (tp rfl))<|.nil) [1,2,6,29,30,34] [(0,0)] (λ _ _ st19=>?_)
  obtain⟨v21,p21,h22⟩:=bs h18
  refine st19.cSF (l:=[.tmp 30,.tmp 34]) 0 (st19.bkN (s:=0) rfl iI) rfl rfl kN250 (Eq.trans (st19.st.has 29 _ rfl) (st19.st.has 0 _ rfl).1.symm) (by simp) (.cons (tp rfl) (.cons (tp rfl) .nil)) (FnS.any (hR.spec_runStmt p21)) [1,2,6] rfl [] rfl rfl (by decide) (λ G20 M20 _ _ st20=>?_)
  refine wpList_nil (za ?_)
  refine st20.sqB (sc rfl (oM rfl (zg rfl))<|sc rfl (xNc rfl (tp rfl))<|sc rfl (xFa rfl qQ (tp rfl))<|sc rfl (xLf (sb:=0) ((PV.root.box rfl).fld owRunner.f5) rfl kT3 (tp rfl) rfl)<|sc rfl (oCI rfl (tp rfl) cI)<|.nil) [1,2,6,40] [(0,0)] (λ _ _ st23=>?_)
  refine st23.cs rfl h22 (λ _ h24=>?_) (λ _ h25=>?_)
  ·
   refine wp_ret (zr (zd (zd (zr ?_))))
   have h26:=lo h24 hx2
   exact(st23.rs0 (s:=0) 0 rfl rfl iI (bx1 h26)).1
  refine wp_skip (zi (za ?_))
  obtain⟨v27,p27,h28⟩:=bs h25
  refine st23.rgA [1,2,6] [(0,0)] (λ _ _ st29=>?_)
  refine za ?_
  exact⟨_,(Option.some.inj h28).symm,⟨_,_,st29.sel [1,2,6] rfl [(0,0)] rfl iT⟩⟩
 refine wp_exit (zn (zn (zG ?_)))
 have h30:=lo h6 hx2
 exact(st4.rs0 (s:=0) 0 rfl rfl iI (bx1 h30)).2
def qw(R:Rec)(x0:Runner)(x1:Int)(x2:Stmt):Option Runner:=
if(cmpI .eql x2.kind (0:Int))=true then((R.spec_importName x0 x2.module).bind λ v8=>
(Zy x2.module (UInt8.ofNat 46)).bind λ v10=>
(atI v10 (0:Int)).bind λ v11=>
if(cmpI .neq v8.1.fin (0:Int))=true then(some v8.1)
else((xk v8.1 v11).bind λ v20=>
if(cmpI .lss v20.2 (0:Int))=true then(some ({ v20.1 with fin:=(1:Int) }))
else((xk v20.1 v11).bind λ v29=>
(xg v29.1 x1 v11 (⟨(1:Int),v29.2⟩:GVal)).bind λ v33=>
some v33)))
else(if(cmpI .eql x2.kind (1:Int))=true then((R.spec_runFrom x0 x1 x2).bind λ v40=>
some v40)
else(if(cmpI .eql x2.kind (2:Int))=true then((R.spec_runStar x0 x1 x2).bind λ v47=>
some v47)
else(if(cmpI .eql x2.kind (3:Int))=true then((xg x0 x1 x2.name (⟨(0:Int),x2.value⟩:GVal)).bind λ v54=>
some v54)
else(if(cmpI .eql x2.kind (4:Int))=true then((atI x0.mods x1).bind λ v60=>
(jB v60.attrs x2.name).bind λ v62=>
if(cmpI .lss v62 (0:Int))=true then(some ({ x0 with fin:=(3:Int) }))
else((atI x0.mods x1).bind λ v76=>
(atI v76.attrs v62).bind λ v78=>
(ZA v78.value).bind λ v79=>
(appO 8 x0.out ([v79]:List Int)).bind λ v88=>
some ({ x0 with out:=v88 })))
else(if(cmpI .eql x2.kind (5:Int))=true then(some ({ x0 with fin:=(4:Int) }))
else(some x0))))))
theorem Q3{R:Rec}(hR:R.ok){x0:Runner}{x1:Int}{x2:Stmt}{r:Runner}(h:qw R x0 x1 x2=some r):FnS Tryz.prog 250 oRun ⟨x0⟩ [dt x1,dt x2] ⟨r⟩ .gone:=by
 unfold qw at h
 refine fnSB (fn:=Tryz.f250) 1 2 Tryz.func250 rfl (of_decide_eq_true rfl) rfl (λ M G _ b0 _ st0=>?_)
 refine st0.sqA [1,5] [(0,1)] (λ _ _ st1=>?_)
 refine st1.sqA [1,5,9] [(0,1)] (λ _ _ st2=>?_)
 refine wp_block ?_
 refine st2.sqA [1,5,9,10] [(0,1)] (λ _ _ st3=>?_)
 refine st3.cs rfl h (λ _ h4=>?_) (λ _ h5=>?_)
 ·
  refine wp_seq (wp_region_list ?_)
  refine st3.segB 3 (sc rfl (oM rfl (zg rfl))<|sc rfl (zh Stmt.fld1 rfl Zb (tp rfl))<|sc rfl (ze rfl kT9 (tp rfl))<|.nil) [1,5,12,14] [(0,1)] (λ _ _ st6=>?_)
  obtain⟨v8,p8,h9⟩:=bs h4
  refine st6.cSF (l:=[.tmp 14]) 1 (st6.bkN (s:=0) rfl iI) rfl rfl kN178 (Eq.trans (st6.st.has 12 _ rfl) (st6.st.has 0 _ rfl).1.symm) (by simp) (.cons (tp rfl) .nil) (hR.spec_importName p8) [1,5] rfl [] rfl rfl (by decide) (λ G7 M7 _ _ st7=>?_)
  refine wpList_nil (za ?_)
  obtain⟨v10,p10,h12⟩:=bs h9
  obtain⟨v11,p11,h13⟩:=bs h12
  refine st7.sqB (sc rfl (zh Stmt.fld1 rfl Zb (tp rfl))<|sc rfl (ze rfl kT9 (tp rfl))<|sc rfl (zq (l:=[.tmp 17,.const (.int .u8 46)]) rfl kN142 (.cons (tp rfl) (.cons (Ya (by decide)) .nil)) (Q0 p10))<|sc rfl (xIdx rfl kS39 (tp rfl) cI p11)<|sc rfl (ze rfl kT9 (tp rfl))<|sc rfl (oA rfl (tp rfl))<|.nil) [1,6] [(0,1)] (λ _ _ st14=>?_)
  refine wp_seq ?_
  refine st14.sqB (sc rfl (oM rfl (zg rfl))<|sc rfl (xNc rfl (tp rfl))<|sc rfl (xFa rfl qQ (tp rfl))<|sc rfl (xLf (sb:=0) ((PV.root.box rfl).fld owRunner.f5) rfl kT3 (tp rfl) rfl)<|sc rfl (oCI rfl (tp rfl) cI)<|.nil) [1,6,25] [(0,1)] (λ _ _ st15=>?_)
  refine st15.cs rfl h13 (λ _ h16=>?_) (λ _ h17=>?_)
  ·
   refine wp_ret (zd (zr ?_))
   exact(st15.rs0 (s:=0) 1 rfl rfl iI (bx1 h16)).1
  refine wp_skip (za (wp_seq (wp_seq (wp_region_list ?_))))
  refine st15.segB 2 (sc rfl (oM rfl (zg rfl))<|sc rfl (oM rfl (tp rfl))<|.nil) [1,6,26,27] [(0,1)] (λ _ _ st18=>?_)
  obtain⟨v20,p20,h21⟩:=bs h17
  refine st18.cSF (l:=[.tmp 27]) 1 (st18.bkN (s:=0) rfl iI) rfl rfl kN112 (Eq.trans (st18.st.has 26 _ rfl) (st18.st.has 0 _ rfl).1.symm) (by simp) (.cons (tp rfl) .nil) (jZ p20) [1,6] rfl [] rfl rfl (by decide) (λ G19 M19 _ _ st19=>?_)
  refine st19.segA 1 [1,6,29] [(0,1)] (λ _ _ st22=>?_)
  refine wpList_nil (za ?_)
  refine st22.cs rfl h21 (λ _ h23=>?_) (λ _ h24=>?_)
  ·
   refine wp_seq (wp_region_list ?_)
   refine st22.segB 3 (sc rfl (oM rfl (zg rfl))<|sc rfl (xNc rfl (tp rfl))<|sc rfl (xFa rfl qQ (tp rfl))<|.nil) [32] [(0,1)] (λ _ _ st25=>?_)
   refine st25.stF (sb:=0) 1 ((PV.root.box rfl).fld owRunner.f5) rfl rfl rfl kT3 (by simp) (tp rfl) cI rfl rfl iI [] rfl [] rfl rfl (λ _ st26=>?_)
   refine wpList_nil (za ?_)
   refine wp_ret (zd (zr ?_))
   exact(st26.rs0 (s:=0) 1 rfl rfl iI (bx1 h23)).1
  refine wp_skip (za (wp_region_list ?_))
  refine st22.segB 5 (sc rfl (oM rfl (zg rfl))<|sc rfl (oM rfl (tp rfl))<|sc rfl (oM rfl (tp rfl))<|sc rfl (oM rfl (zg rfl))<|sc rfl (oM rfl (tp rfl))<|.nil) [33,34,35,36,37] [(0,1)] (λ _ _ st27=>?_)
  obtain⟨v29,p29,h30⟩:=bs h24
  refine st27.cSF (l:=[.tmp 37]) 1 (st27.bkN (s:=0) rfl iI) rfl rfl kN112 (Eq.trans (st27.st.has 36 _ rfl) (st27.st.has 0 _ rfl).1.symm) (by simp) (.cons (tp rfl) .nil) (jZ p29) [33,34,35] rfl [] rfl rfl (by decide) (λ G28 M28 _ _ st28=>?_)
  refine st28.segB 1 (sc rfl (zV (parts:=[(0,.const (.int .i64 1)),(1,.tmp 38)]) (ns:=[1,1]) (zs:=Yc) rfl rfl Wd We (λ w a hl=>by
 intro p hp;simp only[List.mem_cons,List.not_mem_nil,or_false] at hp
 rcases hp with rfl | rfl
 ·
  exact⟨by decide,rfl⟩
 ·
  exact⟨by decide,Rep.len (α:=Int) (OpdR.cells (tp rfl) hl)⟩) (λ w a hl=>GVal.parts (x:=(⟨(1:Int),v29.2⟩:GVal)) (OpdR.cells cI hl) (OpdR.cells (tp rfl) hl)))<|.nil) [33,34,35,39] [(0,1)] (λ _ _ st31=>?_)
  obtain⟨v33,p33,h34⟩:=bs h30
  refine st31.cSF (l:=[.tmp 34,.tmp 35,.tmp 39]) 1 (st31.bkN (s:=0) rfl iI) rfl rfl kN218 (Eq.trans (st31.st.has 33 _ rfl) (st31.st.has 0 _ rfl).1.symm) (by simp) (.cons (tp rfl) (.cons (tp rfl) (.cons (tp rfl) .nil))) (FnS.any (qu p33)) [] rfl [] rfl rfl (by decide) (λ G32 M32 _ _ st32=>?_)
  refine wpList_nil (zi ?_)
  exact(st32.rs0 (s:=0) 1 rfl rfl iI (bx1 h34)).2
 refine st3.sqA [1,5,9,41] [(0,1)] (λ _ _ st35=>?_)
 refine st35.cs rfl h5 (λ _ h36=>?_) (λ _ h37=>?_)
 ·
  refine wp_region_list ?_
  refine st35.segB 3 (sc rfl (oM rfl (zg rfl))<|sc rfl (oM rfl (tp rfl))<|sc rfl (ze rfl wx (tp rfl))<|.nil) [43,44,45] [(0,1)] (λ _ _ st38=>?_)
  obtain⟨v40,p40,h41⟩:=bs h36
  refine st38.cSF (l:=[.tmp 44,.tmp 45]) 1 (st38.bkN (s:=0) rfl iI) rfl rfl kN273 (Eq.trans (st38.st.has 43 _ rfl) (st38.st.has 0 _ rfl).1.symm) (by simp) (.cons (tp rfl) (.cons (tp rfl) .nil)) (FnS.any (hR.spec_runFrom p40)) [] rfl [] rfl rfl (by decide) (λ G39 M39 _ _ st39=>?_)
  refine wpList_nil (zi ?_)
  exact(st39.rs0 (s:=0) 1 rfl rfl iI (bx1 h41)).2
 refine st35.sqA [1,5,9,47] [(0,1)] (λ _ _ st42=>?_)
 refine st42.cs rfl h37 (λ _ h43=>?_) (λ _ h44=>?_)
 ·
  refine wp_region_list ?_
  refine st42.segB 3 (sc rfl (oM rfl (zg rfl))<|sc rfl (oM rfl (tp rfl))<|sc rfl (ze rfl wx (tp rfl))<|.nil) [49,50,51] [(0,1)] (λ _ _ st45=>?_)
  obtain⟨v47,p47,h48⟩:=bs h43
  refine st45.cSF (l:=[.tmp 50,.tmp 51]) 1 (st45.bkN (s:=0) rfl iI) rfl rfl kN274 (Eq.trans (st45.st.has 49 _ rfl) (st45.st.has 0 _ rfl).1.symm) (by simp) (.cons (tp rfl) (.cons (tp rfl) .nil)) (FnS.any (hR.spec_runStar p47)) [] rfl [] rfl rfl (by decide) (λ G46 M46 _ _ st46=>?_)
  refine wpList_nil (zi ?_)
  exact(st46.rs0 (s:=0) 1 rfl rfl iI (bx1 h48)).2
 refine st42.sqA [1,5,9,53] [(0,1)] (λ _ _ st49=>?_)
 refine st49.cs rfl h44 (λ _ h50=>?_) (λ _ h51=>?_)
 ·
  refine wp_region_list ?_
  refine st49.segB 7 (sc rfl (oM rfl (zg rfl))<|sc rfl (oM rfl (tp rfl))<|sc rfl (zh Stmt.fld3 rfl jX (tp rfl))<|sc rfl (ze rfl kT9 (tp rfl))<|sc rfl (zh Stmt.fld4 rfl Ws (tp rfl))<|sc rfl (ze rfl kT3 (tp rfl))<|sc rfl (zV (parts:=[(0,.const (.int .i64 0)),(1,.tmp 60)]) (ns:=[1,1]) (zs:=Yc) rfl rfl Wd We (λ w a hl=>by
 intro p hp;simp only[List.mem_cons,List.not_mem_nil,or_false] at hp
 rcases hp with rfl | rfl
 ·
  exact⟨by decide,rfl⟩
 ·
  exact⟨by decide,Rep.len (α:=Int) (OpdR.cells (tp rfl) hl)⟩) (λ w a hl=>GVal.parts (x:=(⟨(0:Int),x2.value⟩:GVal)) (OpdR.cells cI hl) (OpdR.cells (tp rfl) hl)))<|.nil) [55,56,58,61] [(0,1)] (λ _ _ st52=>?_)
  obtain⟨v54,p54,h55⟩:=bs h50
  refine st52.cSF (l:=[.tmp 56,.tmp 58,.tmp 61]) 1 (st52.bkN (s:=0) rfl iI) rfl rfl kN218 (Eq.trans (st52.st.has 55 _ rfl) (st52.st.has 0 _ rfl).1.symm) (by simp) (.cons (tp rfl) (.cons (tp rfl) (.cons (tp rfl) .nil))) (FnS.any (qu p54)) [] rfl [] rfl rfl (by decide) (λ G53 M53 _ _ st53=>?_)
  refine wpList_nil (zi ?_)
  exact(st53.rs0 (s:=0) 1 rfl rfl iI (bx1 h55)).2
 refine st49.sqA [1,5,9,63] [(0,1)] (λ _ _ st56=>?_)
 refine st56.cs rfl h51 (λ _ h57=>?_) (λ _ h58=>?_)
 ·
  refine wp_seq ?_
  obtain⟨v60,p60,h63⟩:=bs h57
  obtain⟨v62,p62,h64⟩:=bs h63
  refine st56.hdR (s:=0) 1 true (λ _=>((PV.root.box rfl).fld owRunner.f2)) rfl rfl iI [] rfl (λ g59 A59 _ hA59 st59=>?_)
  refine st59.hdR (s:=0) 1 true (λ _=>((((PV.root.box rfl).fld owRunner.f2).row (.head _) rfl (λ h=>hA59 h rfl) p60).fld owGModR.f5)) rfl rfl iI [] rfl (λ g61 A61 _ hA61 st61=>?_)
  refine st61.dr (D:=[_,_,_,_,_,_,_,_,_,_,_,_]) zK [[],[0],[0,1],[0,1,2],[],[0,1,2,3,4],[0,1,2,3,4,5],[0,1,2,3,4,5,6],[],[8],[0,1,2,3,4,5,6,7,8,9],[0,1,2,3,4,5,6,7,8,9,10]] [[(0,none)],[(65,some 0)],[(66,some 1)],[(67,some 2),(0,none)],[(1,none)],[(68,some 3),(69,some 4)],[(70,some 5)],[(71,some 6),(0,none)],[(5,none)],[(73,some 8)],[(72,some 7),(74,some 9),(0,none)],[(75,some 10)]] (by decide +kernel) (
   rc rfl rfl (oM rfl (zg rfl))<|rc rfl rfl (xNc rfl (tp rfl))<|rc rfl rfl (xFa rfl wD (tp rfl))<|rc rfl rfl (xLc (sb:=0) (.tail _ (.head _)) rfl rfl rfl kT67 (tp rfl) rfl)<|rc rfl rfl (oM rfl (tp rfl))<|rc rfl rfl (xIa (g:=g59) rfl kS67 (tp rfl) (tp rfl) rfl (λ h=>hA59 h rfl) p60)<|rc rfl rfl (xFa rfl jd (tp rfl))<|rc rfl rfl (xLc (sb:=0) (.head _) rfl rfl rfl kT57 (tp rfl) rfl)<|rc rfl rfl (zh Stmt.fld3 rfl jX (tp rfl))<|rc rfl rfl (ze rfl kT9 (tp rfl))<|rc rfl rfl (xQ (l:=[.tmp 72,.tmp 74]) st61.ob.sub rfl kN252 (.cons (lendP (sb:=0) st61.ob 1 ((((PV.root.box rfl).fld owRunner.f2).row (.tail _ (.head _)) rfl (λ h=>hA59 h rfl) p60).fld owGModR.f5) (.head _) rfl (yo rfl rfl) (tp rfl) rfl iI) (.cons (jV st61.ob.sub (tp rfl)) .nil)) (Y8 p62) yb)<|rc rfl rfl (oA rfl (tp rfl))<|.nil) [1,7] rfl [(0,1)] rfl iT (λ _ _ st65=>?_)
  have st66:=st65.ncf (s:=0) 1 rfl rfl iI [] rfl
  refine za (wp_seq ?_)
  refine st66.sqA [1,7,77] [(0,1)] (λ _ _ st67=>?_)
  refine st67.cs rfl h64 (λ _ h68=>?_) (λ _ h69=>?_)
  ·
   refine wp_seq (wp_region_list ?_)
   refine st67.segB 3 (sc rfl (oM rfl (zg rfl))<|sc rfl (xNc rfl (tp rfl))<|sc rfl (xFa rfl qQ (tp rfl))<|.nil) [80] [(0,1)] (λ _ _ st70=>?_)
   refine st70.stF (sb:=0) 1 ((PV.root.box rfl).fld owRunner.f5) rfl rfl rfl kT3 (by simp) (tp rfl) cI rfl rfl iI [] rfl [] rfl rfl (λ _ st71=>?_)
   refine wpList_nil (za ?_)
   refine wp_ret (zd (zr ?_))
   exact(st71.rs0 (s:=0) 1 rfl rfl iI (bx1 h68)).1
  refine wp_skip (za ?_)
  refine st67.held (λ _=>True) zK (λ _ st72=>?_)
  refine st72.tkN (i:=0) (sb:=0) rfl rfl (by decide +kernel) (by decide +kernel) (by decide +kernel) (λ _ _ _ _ h=>h) trivial rfl rfl rfl (λ _ st73=>?_)
  obtain⟨v76,p76,h80⟩:=bs h69
  obtain⟨v78,p78,h81⟩:=bs h80
  obtain⟨v79,p79,h82⟩:=bs h81
  refine st73.hdR (s:=0) 1 true (λ _=>((PV.root.box rfl).fld owRunner.f4)) rfl rfl iI [] rfl (λ g74 A74 _ hA74 st74=>?_)
  refine st74.hdR (s:=0) 1 true (λ _=>((PV.root.box rfl).fld owRunner.f2)) rfl rfl iI [] rfl (λ g75 A75 _ hA75 st75=>?_)
  refine st75.hdR (s:=0) 1 true (λ _=>((((PV.root.box rfl).fld owRunner.f2).row (.head _) rfl (λ h=>hA75 h rfl) p76).fld owGModR.f5)) rfl rfl iI [] rfl (λ g77 A77 _ hA77 st77=>?_)
  refine st77.drnE (D:=[_,_,_,_,_,_,_,_,_,_,_,_,_,_,_,_,_,_,_]) 19 [0] [[],[0],[0,1],[0,1,2],[0,1,2,3],[0],[0,5],[0,5,6],[0,5,6,7],[0],[0,5,6,7,8,9],[0,5,6,7,8,9,10],[0,5,6,7,8,9,10,11],[0],[0,5,6,7,8,9,10,11,12,13],[0,5,6,7,8,9,10,11,12,13,14],[0,5,6,7,8,9,10,11,12,13,14,15],[0,5,6,7,8,9,10,11,12,13,14,15,16],[0,5,6,7,8,9,10,11,12,13,14,15,16,17],[0,1,2,3,4,5,6,7,8,9,10,11,12,13,14,15,16,17,18],[0,1,2,3,4,5,6,7,8,9,10,11,12,13,14,15,16,17,18,19],[0,1,2,3,4,5,6,7,8,9,10,11,12,13,14,15,16,17,18,19,20],[0,1,2,3,4,5,6,7,8,9,10,11,12,13,14,15,16,17,18,19,20,21]] [[(0,none)],[(0,none)],[(82,some 1)],[(83,some 2)],[(84,some 3),(0,none)],[(0,none)],[(86,some 5)],[(87,some 6)],[(88,some 7),(0,none)],[(1,none)],[(89,some 8),(90,some 9)],[(91,some 10)],[(92,some 11),(0,none)],[(7,none)],[(93,some 12),(94,some 13)],[(95,some 14)],[(96,some 15),(0,none)],[(97,some 16)],[(98,some 17)],[(85,some 4),(99,some 18)],[(81,some 0)],[(101,some 20)],[(102,some 21),(100,some 19)]] (by decide +kernel) (by decide) (by decide +kernel) (by decide +kernel) (
   rc rfl rfl (oM rfl (zg rfl))<|rc rfl rfl (oM rfl (zg rfl))<|rc rfl rfl (xNc rfl (tp rfl))<|rc rfl rfl (xFa rfl kF83_4 (tp rfl))<|rc rfl rfl (xLc (sb:=0) (.tail _ (.tail _ (.head _))) rfl rfl rfl kT25 (tp rfl) rfl)<|rc rfl rfl (oM rfl (zg rfl))<|rc rfl rfl (xNc rfl (tp rfl))<|rc rfl rfl (xFa rfl wD (tp rfl))<|rc rfl rfl (xLc (sb:=0) (.tail _ (.head _)) rfl rfl rfl kT67 (tp rfl) rfl)<|rc rfl rfl (oM rfl (tp rfl))<|rc rfl rfl (xIa (g:=g75) rfl kS67 (tp rfl) (tp rfl) rfl (λ h=>hA75 h rfl) p76)<|rc rfl rfl (xFa rfl jd (tp rfl))<|rc rfl rfl (xLc (sb:=0) (.head _) rfl rfl rfl kT57 (tp rfl) rfl)<|rc rfl rfl (oM rfl (tp rfl))<|rc rfl rfl (xIa (g:=g77) rfl kS57 (tp rfl) (tp rfl) rfl (λ h=>hA77 h rfl) p78)<|rc rfl rfl (xFa rfl XI (tp rfl))<|rc rfl rfl (xLf (sb:=0) ((((((PV.root.box rfl).fld owRunner.f2).row (.tail _ (.head _)) rfl (λ h=>hA75 h rfl) p76).fld owGModR.f5).row (.head _) rfl (λ h=>hA77 h rfl) p78).fld GAttr.z1) rfl wX (tp rfl) rfl)<|rc rfl rfl (zq (l:=[.tmp 97]) rfl kN275 (.cons (tp rfl) .nil) (spec_shown_w p79))<|rc rfl rfl (yc (opds:=[.tmp 98]) rfl kS25 kY25 rfl rfl (by decide) (.cons (tp rfl) .nil))<|.nil) (by
 intro i hi x d hx
 simp only[List.mem_cons,List.not_mem_nil,or_false] at hi
 rcases hi with rfl
 all_goals (injection hx with hx;injection hx with h1 h2;subst h1;subst h2;rfl)) [81,85,99] rfl [(0,1)] rfl iT (λ _ _ st83=>?_)
  refine st83.mvG (s:=85) (sb:=0) 1 0 ((PV.root.box rfl).fld owRunner.f4) (.tail _ (.tail _ (.head _))) rfl (yo rfl rfl) rfl (by simp) (by simp) (by decide) rfl iI [81,99] rfl [] rfl rfl rfl rfl (λ G85 H85 st85=>?_)
  refine st85.tipR (s:=85) 0 rfl rfl (by simp) iI [0] rfl rfl (λ g86 st86=>?_)
  obtain⟨v88,p88,h89⟩:=bs h82
  refine st86.app 0 rfl rfl kE25 rfl rfl rfl wA p88 [81] rfl [0] rfl rfl (λ g87 M87 _ _ st87=>?_)
  refine st87.segB 2 (sc rfl (xNc rfl (tp rfl))<|sc rfl (xFa rfl kF83_4 (tp rfl))<|.nil) [102] [(0,1),(100,0)] (λ _ _ st90=>?_)
  have st92:=st90.tipW (s:=100) 0 rfl rfl iI [0] rfl
  refine st92.stH (sb:=0) (tv:=100) 1 0 rfl rfl rfl kT25 (by simp) (by simp) (by decide) (tp rfl) rfl rfl iI iI [] rfl [] rfl rfl rfl (λ G91 _ st91=>?_)
  refine wpList_nil (zi ?_)
  exact(st91.rs0 (s:=0) 1 rfl rfl iI (bx1 h89)).2
 refine st56.sqA [103] [(0,1)] (λ _ _ st93=>?_)
 refine st93.cs rfl h58 (λ _ h94=>?_) (λ _ h95=>?_)
 ·
  refine wp_region_list ?_
  refine st93.segB 3 (sc rfl (oM rfl (zg rfl))<|sc rfl (xNc rfl (tp rfl))<|sc rfl (xFa rfl qQ (tp rfl))<|.nil) [107] [(0,1)] (λ _ _ st96=>?_)
  refine st96.stF (sb:=0) 1 ((PV.root.box rfl).fld owRunner.f5) rfl rfl rfl kT3 (by simp) (tp rfl) cI rfl rfl iI [] rfl [] rfl rfl (λ _ st97=>?_)
  refine wpList_nil (zi ?_)
  exact(st97.rs0 (s:=0) 1 rfl rfl iI (bx1 h94)).2
 refine wp_skip (zi ?_)
 exact(st93.rs0 (s:=0) 1 rfl rfl iI (bx1 h95)).2
def y7(_R:Rec)(x1:Int)(v13:List GAttr)(s19:Runner×Int):Option ((Runner×Int)⊕Runner):=
if(cmpI .lss s19.2 (v13.length:Int))=true then(Option.bind (α:=Runner) ((atI v13 s19.2).bind λ v25=>
(atI v25.name.l (0:Int)).bind λ v26=>
if(cmpB .neq v26 (UInt8.ofNat 122))=true then((atI v13 s19.2).bind λ v32=>
(atI v13 s19.2).bind λ v33=>
(xg s19.1 x1 v32.name v33.value).bind λ v38=>
some v38)
else(some s19.1)) λ o24=>
(i64 (s19.2+(1:Int))).bind λ v41=>
some (.inl (o24,v41)))
else(some (.inr s19.1))
def qy(R:Rec)(x0:Runner)(x1:Int)(x2:Stmt):Option Runner:=
(R.spec_importName x0 x2.module).bind λ v4=>
if(cmpI .neq v4.1.fin (0:Int))=true then(some v4.1)
else((atI v4.1.mods v4.2).bind λ v11=>
(appO 32 [] v11.attrs).bind λ v13=>
zX (λ s19=>y7 R x1 v13 s19) (v4.1,(0:Int)))
theorem Q4{R:Rec}(hR:R.ok){x0:Runner}{x1:Int}{x2:Stmt}{r:Runner}(h:qy R x0 x1 x2=some r):FnS Tryz.prog 274 oRun ⟨x0⟩ [dt x1,dt x2] ⟨r⟩ .gone:=by
 unfold qy at h
 refine fnSB (fn:=Tryz.f274) 0 1 Tryz.func274 rfl (of_decide_eq_true rfl) rfl (λ M G w0 b0 _ st0=>?_)
 refine st0.sqA [1,5] [(0,0)] (λ _ _ st1=>?_)
 refine wp_seq (wp_region_list ?_)
 refine st1.segB 3 (sc rfl (oM rfl (zg rfl))<|sc rfl (zh Stmt.fld1 rfl Zb (tp rfl))<|sc rfl (ze rfl kT9 (tp rfl))<|.nil) [1,9,11] [(0,0)] (λ _ _ st2=>?_)
 obtain⟨v4,p4,h5⟩:=bs h
 refine st2.cSF (l:=[.tmp 11]) 0 (st2.bkN (s:=0) rfl iI) rfl rfl kN178 (Eq.trans (st2.st.has 9 _ rfl) (st2.st.has 0 _ rfl).1.symm) (by simp) (.cons (tp rfl) .nil) (hR.spec_importName p4) [1] rfl [] rfl rfl (by decide) (λ G3 M3 _ _ st3=>?_)
 refine st3.segA 1 [1,6] [(0,0)] (λ _ _ st6=>?_)
 refine wpList_nil (za (wp_seq ?_))
 refine st6.sqB (sc rfl (oM rfl (zg rfl))<|sc rfl (xNc rfl (tp rfl))<|sc rfl (xFa rfl qQ (tp rfl))<|sc rfl (xLf (sb:=0) ((PV.root.box rfl).fld owRunner.f5) rfl kT3 (tp rfl) rfl)<|sc rfl (oCI rfl (tp rfl) cI)<|.nil) [1,6,17] [(0,0)] (λ _ _ st7=>?_)
 refine st7.cs rfl h5 (λ _ h8=>?_) (λ _ h9=>?_)
 ·
  refine wp_ret (zd ?_)
  exact(st7.rs0 (s:=0) 0 rfl rfl iI (bx1 h8)).1
 refine wp_skip (za ?_)
 obtain⟨v11,p11,h14⟩:=bs h9
 obtain⟨v13,p13,h15⟩:=bs h14
 refine st7.hdR (s:=0) 0 true (λ _=>((PV.root.box rfl).fld owRunner.f2)) rfl rfl iI [] rfl (λ g10 A10 _ hA10 st10=>?_)
 refine st10.hdR (s:=0) 0 true (λ _=>((((PV.root.box rfl).fld owRunner.f2).row (.head _) rfl (λ h=>hA10 h rfl) p11).fld owGModR.f5)) rfl rfl iI [] rfl (λ g12 A12 _ hA12 st12=>?_)
 refine st12.sqB (sc rfl (Zu (α:=GAttr) (e:=133) rfl kS57)<|sc rfl (oM rfl (zg rfl))<|sc rfl (xNc rfl (tp rfl))<|sc rfl (xFa rfl wD (tp rfl))<|sc rfl (xLc (sb:=0) (.tail _ (.head _)) rfl rfl rfl kT67 (tp rfl) rfl)<|sc rfl (oM rfl (tp rfl))<|sc rfl (xIa (g:=g10) rfl kS67 (tp rfl) (tp rfl) rfl (λ h=>hA10 h rfl) p11)<|sc rfl (xFa rfl jd (tp rfl))<|sc rfl (xLc (sb:=0) (.head _) rfl rfl rfl kT57 (tp rfl) rfl)<|sc rfl (op_app1 rfl kE57 (tp rfl) (row_hd (sb:=0) ((((PV.root.box rfl).fld owRunner.f2).row (.tail _ (.head _)) rfl (λ h=>hA10 h rfl) p11).fld owGModR.f5) (.head _) rfl (yo rfl rfl) rfl (tp rfl)) p13)<|sc rfl (oA rfl (tp rfl))<|.nil) [1,7] [(0,0)] (λ _ _ st16=>?_)
 have st17:=st16.ncf (s:=0) 0 rfl rfl iI [] rfl
 refine st17.sqA [1,7,8] [(0,0)] (λ _ _ st18=>?_)
 refine wp_block ?_
 refine zO h15 (λ s19 a w=>∃ M1 q19_0,Sx (Frm.chg w0 G) 54 M M1 [q19_0] [(1,dt x1),(7,dt v13),(8,dt s19.2)] [(0,0,dnm oRun q19_0 ⟨s19.1⟩ (.pointer (some ⟨b0,0,none⟩)) [])] a w) ⟨_,_,st18.sel [1,7,8] rfl [(0,0)] rfl iT⟩ ?_
 rintro s19 z19 a19 w19 ⟨M19,q19_0,st19⟩ hs19 hx19
 have h20:y7 R x1 v13 s19=some z19:=hs19
 unfold y7 at h20
 refine wp_seq ?_
 refine st19.sqA [1,7,8,31] [(0,0)] (λ _ _ st21=>?_)
 refine st21.cs rfl h20 (λ _ h22=>?_) (λ _ h23=>?_)
 ·
  refine wp_skip (za ?_)
  obtain⟨o24,p24,k24⟩:=bs h22
  refine zo (λ a w=>∃ M1 q24_0,Sx (Frm.chg w0 G) 54 M M1 [q24_0] [(1,dt x1),(7,dt v13),(8,dt s19.2)] [(0,0,dnm oRun q24_0 ⟨o24⟩ (.pointer (some ⟨b0,0,none⟩)) [])] a w) ?_ ?_
  ·
   refine wp_block ?_
   obtain⟨v25,p25,h27⟩:=bs p24
   obtain⟨v26,p26,h28⟩:=bs h27
   refine st21.sqB (sc rfl (oM rfl (tp rfl))<|sc rfl (oM rfl (tp rfl))<|sc rfl (xIdx rfl kS57 (tp rfl) (tp rfl) p25)<|sc rfl (zh GAttr.fld0 rfl Wu (tp rfl))<|sc rfl (ze rfl kT9 (tp rfl))<|sc rfl (xByte rfl kX9 (tp rfl) cI p26)<|sc rfl (oCB rfl (tp rfl) (Ya (by decide)))<|.nil) [1,7,8,40] [(0,0)] (λ _ _ st29=>?_)
   refine st29.cs rfl h28 (λ _ h30=>?_) (λ _ h31=>?_)
   ·
    obtain⟨v32,p32,h34⟩:=bs h30
    obtain⟨v33,p33,h35⟩:=bs h34
    refine st29.drn (D:=[_,_,_,_,_,_,_,_,_,_,_,_]) zK 12 [[],[],[],[],[2,3],[2,3,4],[2,3,4,5],[],[],[7,8],[7,8,9],[7,8,9,10],[0,1,2,3,4,5,6,7,8,9,10,11]] [[(0,none)],[(1,none)],[(7,none)],[(8,none)],[(43,some 2),(44,some 3)],[(45,some 4)],[(46,some 5)],[(7,none)],[(8,none)],[(48,some 7),(49,some 8)],[(50,some 9)],[(51,some 10)],[(41,some 0),(42,some 1),(47,some 6),(52,some 11)]] (by decide +kernel) (by decide) (
     rc rfl rfl (oM rfl (zg rfl))<|rc rfl rfl (oM rfl (tp rfl))<|rc rfl rfl (oM rfl (tp rfl))<|rc rfl rfl (oM rfl (tp rfl))<|rc rfl rfl (xIdx rfl kS57 (tp rfl) (tp rfl) p32)<|rc rfl rfl (zh GAttr.fld0 rfl Wu (tp rfl))<|rc rfl rfl (ze rfl kT9 (tp rfl))<|rc rfl rfl (oM rfl (tp rfl))<|rc rfl rfl (oM rfl (tp rfl))<|rc rfl rfl (xIdx rfl kS57 (tp rfl) (tp rfl) p33)<|rc rfl rfl (zh GAttr.fld1 rfl XI (tp rfl))<|rc rfl rfl (ze rfl wX (tp rfl))<|.nil) [1,7,8,41,42,47,52] rfl [(0,0)] rfl iT (λ _ _ st36=>?_)
    obtain⟨v38,p38,h39⟩:=bs h35
    refine st36.cSF (l:=[.tmp 42,.tmp 47,.tmp 52]) 0 (st36.bkN (s:=0) rfl iI) rfl rfl kN218 (Eq.trans (st36.st.has 41 _ rfl) (st36.st.has 0 _ rfl).1.symm) (by simp) (.cons (tp rfl) (.cons (tp rfl) (.cons (tp rfl) .nil))) (FnS.any (qu p38)) [1,7,8] rfl [] rfl rfl (by decide) (λ G37 M37 _ _ st37=>?_)
    refine wpList_nil (zi (za ?_))
    obtain rfl:=Option.some.inj h39
    exact⟨_,_,st37.sel [1,7,8] rfl [(0,0)] rfl iT⟩
   refine wp_skip (zi (za ?_))
   obtain rfl:=Option.some.inj h31
   exact⟨_,_,st29.sel [1,7,8] rfl [(0,0)] rfl iT⟩
  rintro a24 w24 ⟨M24,q24_0,st24⟩
  have h40:=k24
  obtain⟨v41,p41,h42⟩:=bs h40
  refine st24.rgA [1,7,8] [(0,0)] (λ _ _ st43=>?_)
  refine za ?_
  exact⟨_,(Option.some.inj h42).symm,⟨_,_,st43.sel [1,7,8] rfl [(0,0)] rfl iT⟩⟩
 refine wp_exit (zn (zn (zG ?_)))
 have h44:=lo h23 hx19
 exact(st21.rs0 (s:=0) 0 rfl rfl iI (bx1 h44)).2
def qz(R:Rec)(x0:Runner)(x1:Int)(x2:Stmt):Option Runner:=
(atI x0.mods x1).bind λ v3=>
(jP v3).bind λ v5=>
(qv v5 x2.level x2.module).bind λ v6=>
(yX v6).bind λ v12=>
if(!v12)=true then(some ({ x0 with fin:=(5:Int) }))
else((R.spec_importName x0 v6).bind λ v21=>
if(cmpI .neq v21.1.fin (0:Int))=true then(some v21.1)
else((R.spec_fromName v21.1 v21.2 x2.name).bind λ v29=>
if(cmpI .eql v29.1.fin (0:Int))=true then((xg v29.1 x1 x2.name v29.2).bind λ v40=>
some v40)
else(some v29.1)))
theorem Q5{R:Rec}(hR:R.ok){x0:Runner}{x1:Int}{x2:Stmt}{r:Runner}(h:qz R x0 x1 x2=some r):FnS Tryz.prog 273 oRun ⟨x0⟩ [dt x1,dt x2] ⟨r⟩ .gone:=by
 unfold qz at h
 refine fnSB (fn:=Tryz.f273) 0 2 Tryz.func273 rfl (of_decide_eq_true rfl) rfl (λ M G _ b0 _ st0=>?_)
 refine st0.sqA [1,5] [(0,0)] (λ _ _ st1=>?_)
 refine wp_seq ?_
 obtain⟨v3,p3,h7⟩:=bs h
 obtain⟨v5,p5,h8⟩:=bs h7
 obtain⟨v6,p6,h9⟩:=bs h8
 refine st1.hdR (s:=0) 0 true (λ _=>((PV.root.box rfl).fld owRunner.f2)) rfl rfl iI [] rfl (λ g2 A2 _ hA2 st2=>?_)
 refine st2.hdW (s:=0) 0 true (λ _=>(((PV.root.box rfl).fld owRunner.f2).row (.head _) rfl (λ h=>hA2 h rfl) p3)) rfl rfl iI [] rfl (λ cs4 hS4 st4=>?_)
 refine st4.dr (D:=[_,_,_,_,_,_,_,_,_,_,_,_,_,_]) zK [[],[0],[0,1],[0,1,2],[],[0,1,2,3,4],[0,1,2,3,4,5],[0,1,2,3,4,5,6],[],[8],[],[10],[0,1,2,3,4,5,6,7,8,9,10,11],[0,1,2,3,4,5,6,7,8,9,10,11,12]] [[(0,none)],[(9,some 0)],[(10,some 1)],[(11,some 2),(0,none)],[(1,none)],[(12,some 3),(13,some 4)],[(14,some 5),(0,none)],[(15,some 6),(0,none)],[(5,none)],[(17,some 8)],[(5,none)],[(19,some 10)],[(16,some 7),(18,some 9),(20,some 11)],[(21,some 12)]] (by decide +kernel) (
  rc rfl rfl (oM rfl (zg rfl))<|rc rfl rfl (xNc rfl (tp rfl))<|rc rfl rfl (xFa rfl wD (tp rfl))<|rc rfl rfl (xLc (sb:=0) (.tail _ (.head _)) rfl rfl rfl kT67 (tp rfl) rfl)<|rc rfl rfl (oM rfl (tp rfl))<|rc rfl rfl (xIa (g:=g2) rfl kS67 (tp rfl) (tp rfl) rfl (λ h=>hA2 h rfl) p3)<|rc rfl rfl (xLw (sb:=0) (.head _) rfl (hS4 rfl) rfl kT111 (tp rfl) rfl)<|rc rfl rfl (xQ (l:=[.tmp 15]) st4.ob.sub rfl kN286 (.cons (lendP (sb:=0) st4.ob 0 (((PV.root.box rfl).fld owRunner.f2).row (.tail _ (.head _)) rfl (λ h=>hA2 h rfl) p3) (.head _) rfl (fits_all rfl (hS4 rfl)) (tp rfl) rfl iI) .nil) (Qg p5) ZZ)<|rc rfl rfl (zh Stmt.fld2 rfl kF173_2 (tp rfl))<|rc rfl rfl (ze rfl kT3 (tp rfl))<|rc rfl rfl (zh Stmt.fld1 rfl Zb (tp rfl))<|rc rfl rfl (ze rfl kT9 (tp rfl))<|rc rfl rfl (zq (l:=[.tmp 16,.tmp 18,.tmp 20]) rfl kN248 (.cons (tp rfl) (.cons (tp rfl) (.cons (tp rfl) .nil))) (Q1 p6))<|rc rfl rfl (oA rfl (tp rfl))<|.nil) [1,5,6] rfl [(0,0)] rfl iT (λ _ _ st10=>?_)
 have st11:=st10.ncf (s:=0) 0 rfl rfl iI [] rfl
 refine za (wp_seq ?_)
 obtain⟨v12,p12,h13⟩:=bsW h9 ZK
 refine st11.sqA [1,5,6,24] [(0,0)] (λ _ _ st14=>?_)
 refine st14.cs rfl h13 (λ _ h15=>?_) (λ _ h16=>?_)
 ·
  refine wp_seq (wp_region_list ?_)
  refine st14.segB 3 (sc rfl (oM rfl (zg rfl))<|sc rfl (xNc rfl (tp rfl))<|sc rfl (xFa rfl qQ (tp rfl))<|.nil) [27] [(0,0)] (λ _ _ st17=>?_)
  refine st17.stF (sb:=0) 0 ((PV.root.box rfl).fld owRunner.f5) rfl rfl rfl kT3 (by simp) (tp rfl) cI rfl rfl iI [] rfl [] rfl rfl (λ _ st18=>?_)
  refine wpList_nil (za ?_)
  refine wp_ret (zd ?_)
  exact(st18.rs0 (s:=0) 0 rfl rfl iI (bx1 h15)).1
 refine wp_skip (za (wp_seq (wp_region_list ?_)))
 refine st14.segB 2 (sc rfl (oM rfl (zg rfl))<|sc rfl (oM rfl (tp rfl))<|.nil) [1,5,28,29] [(0,0)] (λ _ _ st19=>?_)
 obtain⟨v21,p21,h22⟩:=bs h16
 refine st19.cSF (l:=[.tmp 29]) 0 (st19.bkN (s:=0) rfl iI) rfl rfl kN178 (Eq.trans (st19.st.has 28 _ rfl) (st19.st.has 0 _ rfl).1.symm) (by simp) (.cons (tp rfl) .nil) (hR.spec_importName p21) [1,5] rfl [] rfl rfl (by decide) (λ G20 M20 _ _ st20=>?_)
 refine st20.segA 1 [1,5,7] [(0,0)] (λ _ _ st23=>?_)
 refine wpList_nil (za (wp_seq ?_))
 refine st23.sqB (sc rfl (oM rfl (zg rfl))<|sc rfl (xNc rfl (tp rfl))<|sc rfl (xFa rfl qQ (tp rfl))<|sc rfl (xLf (sb:=0) ((PV.root.box rfl).fld owRunner.f5) rfl kT3 (tp rfl) rfl)<|sc rfl (oCI rfl (tp rfl) cI)<|.nil) [1,5,7,35] [(0,0)] (λ _ _ st24=>?_)
 refine st24.cs rfl h22 (λ _ h25=>?_) (λ _ h26=>?_)
 ·
  refine wp_ret (zd ?_)
  exact(st24.rs0 (s:=0) 0 rfl rfl iI (bx1 h25)).1
 refine wp_skip (za (wp_seq (wp_region_list ?_)))
 refine st24.segB 4 (sc rfl (oM rfl (zg rfl))<|sc rfl (oM rfl (tp rfl))<|sc rfl (zh Stmt.fld3 rfl jX (tp rfl))<|sc rfl (ze rfl kT9 (tp rfl))<|.nil) [1,5,36,37,39] [(0,0)] (λ _ _ st27=>?_)
 obtain⟨v29,p29,h30⟩:=bs h26
 refine st27.cSF (l:=[.tmp 37,.tmp 39]) 0 (st27.bkN (s:=0) rfl iI) rfl rfl kN287 (Eq.trans (st27.st.has 36 _ rfl) (st27.st.has 0 _ rfl).1.symm) (by simp) (.cons (tp rfl) (.cons (tp rfl) .nil)) (hR.spec_fromName p29) [1,5] rfl [] rfl rfl (by decide) (λ G28 M28 _ _ st28=>?_)
 refine st28.alloc 1 rfl rfl kZ131 XC (by simp) [1,5,40] rfl [0] rfl rfl (λ b32 M32 _ _ st32=>?_)
 refine st32.store (sb:=8) 1 FldS.id rfl rfl rfl wX rfl rfl (tp rfl) rfl [1,5] rfl [0] rfl rfl (λ M34 _ st34=>?_)
 refine wpList_nil (za ?_)
 refine st34.sqB (sc rfl (oM rfl (zg rfl))<|sc rfl (xNc rfl (tp rfl))<|sc rfl (xFa rfl qQ (tp rfl))<|sc rfl (xLf (sb:=0) ((PV.root.box rfl).fld owRunner.f5) rfl kT3 (tp rfl) rfl)<|sc rfl (oCI rfl (tp rfl) cI)<|.nil) [1,5,45] [(0,0),(8,1)] (λ _ _ st35=>?_)
 refine st35.cs rfl h30 (λ _ h36=>?_) (λ _ h37=>?_)
 ·
  refine wp_region_list ?_
  refine st35.segB 5 (sc rfl (oM rfl (zg rfl))<|sc rfl (oM rfl (tp rfl))<|sc rfl (zh Stmt.fld3 rfl jX (tp rfl))<|sc rfl (ze rfl kT9 (tp rfl))<|sc rfl (zN rfl wX (tp rfl))<|.nil) [46,47,49,50] [(0,0)] (λ _ _ st38=>?_)
  obtain⟨v40,p40,h41⟩:=bs h36
  refine st38.cSF (l:=[.tmp 47,.tmp 49,.tmp 50]) 0 (st38.bkN (s:=0) rfl iI) rfl rfl kN218 (Eq.trans (st38.st.has 46 _ rfl) (st38.st.has 0 _ rfl).1.symm) (by simp) (.cons (tp rfl) (.cons (tp rfl) (.cons (tp rfl) .nil))) (FnS.any (qu p40)) [] rfl [] rfl rfl (by decide) (λ G39 M39 _ _ st39=>?_)
  refine wpList_nil ?_
  exact(st39.rs0 (s:=0) 0 rfl rfl iI (bx1 h41)).2
 refine wp_skip ?_
 exact(st35.rs0 (s:=0) 0 rfl rfl iI (bx1 h37)).2
def j7(R:Rec)(x0:Runner)(x1:Int)(x2:Str):Option (Runner×GVal):=
(atI x0.mods x1).bind λ v4=>
(jB v4.attrs x2).bind λ v6=>
if(cmpI .geq v6 (0:Int))=true then((atI x0.mods x1).bind λ v15=>
(atI v15.attrs v6).bind λ v17=>
some (x0,v17.value))
else((atI x0.mods x1).bind λ v25=>
(qJ v25.name x2).bind λ v26=>
(atI x0.mods x1).bind λ v32=>
(gO (cmpI .eql v32.kind (1:Int) == false) (yX v26)).bind λ v33=>
if(cmpI .eql v32.kind (1:Int)||(!v33))=true then(some ({ x0 with fin:=(2:Int) },(⟨0,0⟩:GVal)))
else((xk x0 v26).bind λ v47=>
(gO (cmpI .lss v47.2 (0:Int) == true) (jC v47.1 v26)).bind λ v51=>
if(cmpI .lss v47.2 (0:Int)&&cmpI .eql v51.2.kind (0:Int))=true then(some ({ (if(cmpI .lss v47.2 (0:Int) == true)=true then v51.1 else v47.1) with fin:=(2:Int) },(⟨0,0⟩:GVal)))
else((R.spec_importName (if(cmpI .lss v47.2 (0:Int) == true)=true then v51.1 else v47.1) v26).bind λ v63=>
some (v63.1,(⟨(1:Int),v63.2⟩:GVal)))))
theorem QL{R:Rec}(hR:R.ok){x0:Runner}{x1:Int}{x2:Str}{r:Runner×GVal}(h:j7 R x0 x1 x2=some r):FnS Tryz.prog 287 oRun ⟨x0⟩ [dt x1,dt x2] ⟨r.1⟩ (.frz (dt r.2)):=by
 unfold j7 at h
 refine fnSB (fn:=Tryz.f287) 0 2 Tryz.func287 rfl (of_decide_eq_true rfl) rfl (λ M G _ b0 _ st0=>?_)
 refine wp_seq (wp_region_list ?_)
 refine st0.alloc 1 rfl rfl kZ131 XC (by simp) [1,2] rfl [0] rfl rfl (λ b2 M2 _ _ st2=>?_)
 refine wpList_nil (za (wp_seq ?_))
 obtain⟨v4,p4,h7⟩:=bs h
 obtain⟨v6,p6,h8⟩:=bs h7
 refine st2.hdR (s:=0) 0 true (λ _=>((PV.root.box rfl).fld owRunner.f2)) rfl rfl iI [6] rfl (λ g3 A3 _ hA3 st3=>?_)
 refine st3.hdR (s:=0) 0 true (λ _=>((((PV.root.box rfl).fld owRunner.f2).row (.head _) rfl (λ h=>hA3 h rfl) p4).fld owGModR.f5)) rfl rfl iI [6] rfl (λ g5 A5 _ hA5 st5=>?_)
 refine st5.sqB (sc rfl (oM rfl (zg rfl))<|sc rfl (xNc rfl (tp rfl))<|sc rfl (xFa rfl wD (tp rfl))<|sc rfl (xLc (sb:=0) (.tail _ (.head _)) rfl rfl rfl kT67 (tp rfl) rfl)<|sc rfl (oM rfl (tp rfl))<|sc rfl (xIa (g:=g3) rfl kS67 (tp rfl) (tp rfl) rfl (λ h=>hA3 h rfl) p4)<|sc rfl (xFa rfl jd (tp rfl))<|sc rfl (xLc (sb:=0) (.head _) rfl rfl rfl kT57 (tp rfl) rfl)<|sc rfl (oM rfl (tp rfl))<|sc rfl (xQ (l:=[.tmp 16,.tmp 17]) st5.ob.sub rfl kN252 (.cons (lendP (sb:=0) st5.ob 0 ((((PV.root.box rfl).fld owRunner.f2).row (.tail _ (.head _)) rfl (λ h=>hA3 h rfl) p4).fld owGModR.f5) (.head _) rfl (yo rfl rfl) (tp rfl) rfl iI) (.cons (jV st5.ob.sub (tp rfl)) .nil)) (Y8 p6) yb)<|sc rfl (oA rfl (tp rfl))<|.nil) [1,2,7] [(0,0),(6,1)] (λ _ _ st9=>?_)
 have st10:=st9.ncf (s:=0) 0 rfl rfl iI [6] rfl
 refine st10.sqA [1,2,7,20] [(0,0),(6,1)] (λ _ _ st11=>?_)
 refine st11.cs rfl h8 (λ _ h12=>?_) (λ _ h13=>?_)
 ·
  refine wp_seq (wp_region_list ?_)
  obtain⟨v15,p15,h18⟩:=bs h12
  obtain⟨v17,p17,h19⟩:=bs h18
  refine st11.hdR (s:=0) 0 true (λ _=>((PV.root.box rfl).fld owRunner.f2)) rfl rfl iI [6] rfl (λ g14 A14 _ hA14 st14=>?_)
  refine st14.hdR (s:=0) 0 true (λ _=>((((PV.root.box rfl).fld owRunner.f2).row (.head _) rfl (λ h=>hA14 h rfl) p15).fld owGModR.f5)) rfl rfl iI [6] rfl (λ g16 A16 _ hA16 st16=>?_)
  refine st16.segB 12 (sc rfl (oM rfl (zg rfl))<|sc rfl (xNc rfl (tp rfl))<|sc rfl (xFa rfl wD (tp rfl))<|sc rfl (xLc (sb:=0) (.tail _ (.head _)) rfl rfl rfl kT67 (tp rfl) rfl)<|sc rfl (oM rfl (tp rfl))<|sc rfl (xIa (g:=g14) rfl kS67 (tp rfl) (tp rfl) rfl (λ h=>hA14 h rfl) p15)<|sc rfl (xFa rfl jd (tp rfl))<|sc rfl (xLc (sb:=0) (.head _) rfl rfl rfl kT57 (tp rfl) rfl)<|sc rfl (oM rfl (tp rfl))<|sc rfl (xIa (g:=g16) rfl kS57 (tp rfl) (tp rfl) rfl (λ h=>hA16 h rfl) p17)<|sc rfl (xFa rfl XI (tp rfl))<|sc rfl (xLf (sb:=0) ((((((PV.root.box rfl).fld owRunner.f2).row (.tail _ (.head _)) rfl (λ h=>hA14 h rfl) p15).fld owGModR.f5).row (.head _) rfl (λ h=>hA16 h rfl) p17).fld GAttr.z1) rfl wX (tp rfl) rfl)<|.nil) [32] [(0,0),(6,1)] (λ _ _ st20=>?_)
  refine st20.store (sb:=6) 1 FldS.id rfl rfl rfl wX rfl rfl (tp rfl) rfl [] rfl [0] rfl rfl (λ M22 _ st22=>?_)
  refine wpList_nil ?_
  have st23:=st22.ncf (s:=0) 0 rfl rfl iI [6] rfl
  refine za ?_
  refine wp_ret (zd ?_)
  exact st23.rsC (s:=0) 0 rfl wX rfl rfl iI (bxr h19)
 refine wp_skip (za ?_)
 obtain⟨v25,p25,h27⟩:=bs h13
 obtain⟨v26,p26,h28⟩:=bs h27
 refine st11.hdR (s:=0) 0 true (λ _=>((PV.root.box rfl).fld owRunner.f2)) rfl rfl iI [6] rfl (λ g24 A24 _ hA24 st24=>?_)
 refine st24.sqB (sc rfl (oM rfl (zg rfl))<|sc rfl (xNc rfl (tp rfl))<|sc rfl (xFa rfl wD (tp rfl))<|sc rfl (xLc (sb:=0) (.head _) rfl rfl rfl kT67 (tp rfl) rfl)<|sc rfl (oM rfl (tp rfl))<|sc rfl (xIa (g:=g24) rfl kS67 (tp rfl) (tp rfl) rfl (λ h=>hA24 h rfl) p25)<|sc rfl (xFa rfl ZR (tp rfl))<|sc rfl (xLf (sb:=0) ((((PV.root.box rfl).fld owRunner.f2).row (.head _) rfl (λ h=>hA24 h rfl) p25).fld owGModR.f0) rfl kT9 (tp rfl) rfl)<|sc rfl (oM rfl (tp rfl))<|sc rfl (zq (l:=[.tmp 40,.tmp 41]) rfl kN188 (.cons (tp rfl) (.cons (tp rfl) .nil)) (Jz p26))<|sc rfl (oA rfl (tp rfl))<|.nil) [1,8] [(0,0),(6,1)] (λ _ _ st29=>?_)
 have st30:=st29.ncf (s:=0) 0 rfl rfl iI [6] rfl
 refine wp_seq ?_
 obtain⟨v32,p32,h34⟩:=bs h28
 obtain⟨v33,p33,h35⟩:=bs h34
 refine st30.hdR (s:=0) 0 true (λ _=>((PV.root.box rfl).fld owRunner.f2)) rfl rfl iI [6] rfl (λ g31 A31 _ hA31 st31=>?_)
 refine st31.sqB (sc rfl (oM rfl (zg rfl))<|sc rfl (xNc rfl (tp rfl))<|sc rfl (xFa rfl wD (tp rfl))<|sc rfl (xLc (sb:=0) (.head _) rfl rfl rfl kT67 (tp rfl) rfl)<|sc rfl (oM rfl (tp rfl))<|sc rfl (xIa (g:=g31) rfl kS67 (tp rfl) (tp rfl) rfl (λ h=>hA31 h rfl) p32)<|sc rfl (xFa rfl JB (tp rfl))<|sc rfl (xLf (sb:=0) ((((PV.root.box rfl).fld owRunner.f2).row (.head _) rfl (λ h=>hA31 h rfl) p32).fld owGModR.f1) rfl kT3 (tp rfl) rfl)<|sc rfl (oCI rfl (tp rfl) cI)<|sc rfl (oM rfl (tp rfl))<|sg rfl rfl (λ hg=>oM rfl (tp rfl))<|sg rfl rfl (λ hg=>zq (l:=[.tmp 53]) rfl kN75 (.cons (zf hg rfl) .nil) (ZK (gh hg p33)))<|sg rfl rfl (λ hg=>yz rfl (zf hg rfl))<|sc rfl (xv rfl (tp rfl) (zb rfl))<|.nil) [8,56] [(0,0),(6,1)] (λ _ _ st36=>?_)
 have st37:=st36.ncf (s:=0) 0 rfl rfl iI [6] rfl
 refine st37.cs rfl h35 (λ _ h38=>?_) (λ _ h39=>?_)
 ·
  refine wp_seq (wp_region_list ?_)
  refine st37.segB 3 (sc rfl (oM rfl (zg rfl))<|sc rfl (xNc rfl (tp rfl))<|sc rfl (xFa rfl qQ (tp rfl))<|.nil) [59] [(0,0),(6,1)] (λ _ _ st40=>?_)
  refine st40.stF (sb:=0) 0 ((PV.root.box rfl).fld owRunner.f5) rfl rfl rfl kT3 (by simp) (tp rfl) cI rfl rfl iI [] rfl [6] rfl rfl (λ _ st41=>?_)
  refine wpList_nil (za (wp_seq (wp_region_list ?_)))
  refine st41.segB 1 (sc rfl (zV (parts:=[]) (ns:=[1,1]) (zs:=Yc) rfl rfl Wd We (λ w a hl=>by simp) (λ w a hl=>GVal.parts (x:=(⟨0,0⟩:GVal)) ⟨rfl,trivial⟩ ⟨rfl,trivial⟩))<|.nil) [60] [(0,0),(6,1)] (λ _ _ st42=>?_)
  refine st42.store (sb:=6) 1 FldS.id rfl rfl rfl wX rfl rfl (tp rfl) rfl [] rfl [0] rfl rfl (λ M44 _ st44=>?_)
  refine wpList_nil (za ?_)
  refine wp_ret (zd ?_)
  exact st44.rsC (s:=0) 0 rfl wX rfl rfl iI (bxr h38)
 refine wp_skip (za (wp_seq (wp_seq (wp_region_list ?_))))
 refine st37.segB 2 (sc rfl (oM rfl (zg rfl))<|sc rfl (oM rfl (tp rfl))<|.nil) [8,61,62] [(0,0),(6,1)] (λ _ _ st45=>?_)
 obtain⟨v47,p47,h48⟩:=bs h39
 refine st45.cSF (l:=[.tmp 62]) 0 (st45.bkN (s:=0) rfl iI) rfl rfl kN112 (Eq.trans (st45.st.has 61 _ rfl) (st45.st.has 0 _ rfl).1.symm) (by simp) (.cons (tp rfl) .nil) (jZ p47) [8] rfl [6] rfl rfl (by decide) (λ G46 M46 _ _ st46=>?_)
 refine st46.segB 4 (sc rfl (oCI rfl (tp rfl) cI)<|sc rfl (oM rfl (tp rfl))<|sg rfl rfl (λ hg=>oM rfl (zg rfl))<|sg rfl rfl (λ hg=>oM rfl (tp rfl))<|.nil) [8,65,66,67] [(0,0),(6,1)] (λ _ _ st49=>?_)
 obtain⟨v51,p51,h52⟩:=bs h48
 refine st49.cSFgB (sb:=0) (l:=[.tmp 67]) 0 rfl iI rfl rfl rfl kN215 (λ hg=>(st49.st.has 66 _ rfl).1 hg) (by simp) (λ hg=>(.cons (zf hg rfl) .nil)) (λ hg=>WP (gh hg p51)) [8,65] rfl [6] rfl rfl (by decide) (λ G50 M50 _ _ st50=>?_)
 refine st50.segB 3 (sg rfl rfl (λ hg=>op_fieldV Spec.fld0 rfl rfl kG119_0 (zf hg rfl))<|sg rfl rfl (λ hg=>oCI rfl (zf hg rfl) cI)<|sc rfl (zW rfl (tp rfl) (zb rfl))<|.nil) [8,71] [(0,0),(6,1)] (λ _ _ st53=>?_)
 refine wpList_nil (za ?_)
 refine st53.cs rfl h52 (λ _ h54=>?_) (λ _ h55=>?_)
 ·
  refine wp_seq (wp_region_list ?_)
  refine st53.segB 3 (sc rfl (oM rfl (zg rfl))<|sc rfl (xNc rfl (tp rfl))<|sc rfl (xFa rfl qQ (tp rfl))<|.nil) [74] [(0,0),(6,1)] (λ _ _ st56=>?_)
  refine st56.stF (sb:=0) 0 ((PV.root.box rfl).fld owRunner.f5) rfl rfl rfl kT3 (by simp) (tp rfl) cI rfl rfl iI [] rfl [6] rfl rfl (λ _ st57=>?_)
  refine wpList_nil (za (wp_seq (wp_region_list ?_)))
  refine st57.segB 1 (sc rfl (zV (parts:=[]) (ns:=[1,1]) (zs:=Yc) rfl rfl Wd We (λ w a hl=>by simp) (λ w a hl=>GVal.parts (x:=(⟨0,0⟩:GVal)) ⟨rfl,trivial⟩ ⟨rfl,trivial⟩))<|.nil) [75] [(0,0),(6,1)] (λ _ _ st58=>?_)
  refine st58.store (sb:=6) 1 FldS.id rfl rfl rfl wX rfl rfl (tp rfl) rfl [] rfl [0] rfl rfl (λ M60 _ st60=>?_)
  refine wpList_nil (za ?_)
  refine wp_ret (zd ?_)
  exact st60.rsC (s:=0) 0 rfl wX rfl rfl iI (bxr h54)
 refine wp_skip (za (wp_seq (wp_region_list ?_)))
 refine st53.segB 2 (sc rfl (oM rfl (zg rfl))<|sc rfl (oM rfl (tp rfl))<|.nil) [76,77] [(0,0),(6,1)] (λ _ _ st61=>?_)
 obtain⟨v63,p63,h64⟩:=bs h55
 refine st61.cSF (l:=[.tmp 77]) 0 (st61.bkN (s:=0) rfl iI) rfl rfl kN178 (Eq.trans (st61.st.has 76 _ rfl) (st61.st.has 0 _ rfl).1.symm) (by simp) (.cons (tp rfl) .nil) (hR.spec_importName p63) [] rfl [6] rfl rfl (by decide) (λ G62 M62 _ _ st62=>?_)
 refine st62.segB 1 (sc rfl (zV (parts:=[(0,.const (.int .i64 1)),(1,.tmp 78)]) (ns:=[1,1]) (zs:=Yc) rfl rfl Wd We (λ w a hl=>by
 intro p hp;simp only[List.mem_cons,List.not_mem_nil,or_false] at hp
 rcases hp with rfl | rfl
 ·
  exact⟨by decide,rfl⟩
 ·
  exact⟨by decide,Rep.len (α:=Int) (OpdR.cells (tp rfl) hl)⟩) (λ w a hl=>GVal.parts (x:=(⟨(1:Int),v63.2⟩:GVal)) (OpdR.cells cI hl) (OpdR.cells (tp rfl) hl)))<|.nil) [79] [(0,0),(6,1)] (λ _ _ st65=>?_)
 refine st65.store (sb:=6) 1 FldS.id rfl rfl rfl wX rfl rfl (tp rfl) rfl [] rfl [0] rfl rfl (λ M67 _ st67=>?_)
 refine wpList_nil (za (wp_ret ?_))
 exact st67.rsC (s:=0) 0 rfl wX rfl rfl iI (bxr h64)
def jx(R:Rec)(x0:Runner)(x1:Str):Option (Runner×Int):=
(xk x0 x1).bind λ v4=>
if(cmpI .geq v4.2 (0:Int))=true then((xO v4.1 (3:Int) x1).bind λ v13=>
some (v13,v4.2))
else((xw x1).bind λ v17=>
(gO (decide (v17≠(⟨[]⟩:Str)) == true) (R.spec_importName v4.1 v17)).bind λ v22=>
if(decide (v17≠(⟨[]⟩:Str))&&cmpI .lss v22.2 (0:Int))=true then(some ((if(decide (v17≠(⟨[]⟩:Str)) == true)=true then v22.1 else v4.1),(-1:Int)))
else((xk (if(decide (v17≠(⟨[]⟩:Str)) == true)=true then v22.1 else v4.1) x1).bind λ v31=>
if(cmpI .geq v31.2 (0:Int))=true then((xO v31.1 (3:Int) x1).bind λ v40=>
some (v40,v31.2))
else((jC v31.1 x1).bind λ v46=>
if(cmpI .eql v46.2.kind (0:Int))=true then(some ({ v46.1 with fin:=(1:Int) },(-1:Int)))
else(Option.bind (α:=Runner) ((appO 80 v46.1.mods [(⟨x1,v46.2.kind,v46.2.roots,true,false,[]⟩:GMod)]).bind λ v86=>
some ({ v46.1 with mods:=v86 })) λ o65=>
(xO o65 (0:Int) x1).bind λ v140=>
Option.bind (α:=Runner) (if(cmpI .geq v46.2.file (0:Int))=true then((jA v140 v46.2.file).bind λ v149=>
(R.spec_runBody v149.1 (v46.1.mods.length:Int) v149.2).bind λ v153=>
some v153)
else(some v140)) λ o143=>
if(cmpI .neq o143.fin (0:Int))=true then((atI o143.mods (v46.1.mods.length:Int)).bind λ v161=>
(xO ({ o143 with mods:=(o143.mods.set (v46.1.mods.length:Int).toNat ({ v161 with cached:=false })) }) (2:Int) x1).bind λ v167=>
some (v167,(-1:Int)))
else((atI o143.mods (v46.1.mods.length:Int)).bind λ v172=>
(xO ({ o143 with mods:=(o143.mods.set (v46.1.mods.length:Int).toNat ({ v172 with done:=true })) }) (1:Int) x1).bind λ v178=>
Option.bind (α:=Runner) ((xk v178 v17).bind λ v184=>
if(cmpI .geq v184.2 (0:Int))=true then((qt x1).bind λ v191=>
(xg v184.1 v184.2 v191 (⟨(1:Int),(v46.1.mods.length:Int)⟩:GVal)).bind λ v195=>
some v195)
else(some v184.1)) λ o181=>
some (o181,(v46.1.mods.length:Int)))))))
theorem JF{R:Rec}(hR:R.ok){x0:Runner}{x1:Str}{r:Runner×Int}(h:jx R x0 x1=some r):FnS Tryz.prog 178 oRun ⟨x0⟩ [dt x1] ⟨r.1⟩ (.frz (dt r.2)):=by
 unfold jx at h
 refine fnSB (fn:=Tryz.f178) 4 6 Tryz.func178 rfl (of_decide_eq_true rfl) rfl (λ M G w0 b0 _ st0=>?_)
 refine st0.sqA [1] [(0,4)] (λ _ _ st1=>?_)
 refine wp_seq (wp_seq (wp_region_list ?_))
 refine st1.segB 2 (sc rfl (oM rfl (zg rfl))<|sc rfl (oM rfl (tp rfl))<|.nil) [1,11,12] [(0,4)] (λ _ _ st2=>?_)
 obtain⟨v4,p4,h5⟩:=bs h
 refine st2.cSF (l:=[.tmp 12]) 4 (st2.bkN (s:=0) rfl iI) rfl rfl kN112 (Eq.trans (st2.st.has 11 _ rfl) (st2.st.has 0 _ rfl).1.symm) (by simp) (.cons (tp rfl) .nil) (jZ p4) [1] rfl [] rfl rfl (by decide) (λ G3 M3 _ _ st3=>?_)
 have st6:=st3.gs (Gs':=[oneB none,oneB none,oneB none,oneB none,G3,oneB none]) rfl
 refine st6.segA 1 [1,5] [(0,4)] (λ _ _ st7=>?_)
 refine wpList_nil (za ?_)
 refine st7.sqA [1,5,15] [(0,4)] (λ _ _ st8=>?_)
 refine st8.cs rfl h5 (λ _ h9=>?_) (λ _ h10=>?_)
 ·
  refine wp_seq (wp_region_list ?_)
  refine st8.segB 2 (sc rfl (oM rfl (zg rfl))<|sc rfl (oM rfl (tp rfl))<|.nil) [5,16,17] [(0,4)] (λ _ _ st11=>?_)
  obtain⟨v13,p13,h14⟩:=bs h9
  refine st11.cSF (l:=[.const (.int .i64 3),.tmp 17]) 4 (st11.bkN (s:=0) rfl iI) rfl rfl kN214 (Eq.trans (st11.st.has 16 _ rfl) (st11.st.has 0 _ rfl).1.symm) (by simp) (.cons cI (.cons (tp rfl) .nil)) (FnS.any (Z5 p13)) [5] rfl [] rfl rfl (by decide) (λ G12 M12 _ _ st12=>?_)
  have st15:=st12.gs (Gs':=[oneB none,oneB none,oneB none,oneB none,G12,oneB none]) rfl
  refine wpList_nil (za ?_)
  refine st15.sqA [4] [(0,4)] (λ _ _ st16=>?_)
  refine wp_ret (zd ?_)
  exact st16.rsF (s:=0) 4 rfl rfl rfl iI (bxr h14) yb
 refine wp_skip (za ?_)
 obtain⟨v17,p17,h18⟩:=bsW h10 ZP
 refine st8.sqA [1,6] [(0,4)] (λ _ _ st19=>?_)
 refine wp_seq (wp_seq (wp_region_list ?_))
 refine st19.segB 5 (sc rfl (oM rfl (tp rfl))<|sc rfl (Yb rfl (tp rfl) (zI (by decide)))<|sc rfl (oM rfl (tp rfl))<|sg rfl rfl (λ hg=>oM rfl (zg rfl))<|sg rfl rfl (λ hg=>oM rfl (tp rfl))<|.nil) [1,6,24,25,26] [(0,4)] (λ _ _ st20=>?_)
 obtain⟨v22,p22,h23⟩:=bs h18
 refine st20.cSFgB (sb:=0) (l:=[.tmp 26]) 4 rfl iI rfl rfl rfl kN178 (λ hg=>(st20.st.has 25 _ rfl).1 hg) (by simp) (λ hg=>(.cons (zf hg rfl) .nil)) (λ hg=>hR.spec_importName (gh hg p22)) [1,6,24] rfl [] rfl rfl (by decide) (λ G21 M21 _ _ st21=>?_)
 have st24:=st21.gs (Gs':=[oneB none,oneB none,oneB none,oneB none,G21,oneB none]) rfl
 refine st24.segB 2 (sg rfl rfl (λ hg=>oCI rfl (zf hg rfl) cI)<|sc rfl (zW rfl (tp rfl) (zb rfl))<|.nil) [1,6,29] [(0,4)] (λ _ _ st25=>?_)
 refine wpList_nil (za ?_)
 refine st25.cs rfl h23 (λ _ h26=>?_) (λ _ h27=>?_)
 ·
  refine st25.sqA [4] [(0,4)] (λ _ _ st28=>?_)
  refine wp_ret (zd ?_)
  exact st28.rsF (s:=0) 4 rfl rfl rfl iI (bxr h26) yb
 refine wp_skip (za (wp_seq (wp_seq (wp_region_list ?_))))
 refine st25.segB 2 (sc rfl (oM rfl (zg rfl))<|sc rfl (oM rfl (tp rfl))<|.nil) [1,6,30,31] [(0,4)] (λ _ _ st29=>?_)
 obtain⟨v31,p31,h32⟩:=bs h27
 refine st29.cSF (l:=[.tmp 31]) 4 (st29.bkN (s:=0) rfl iI) rfl rfl kN112 (Eq.trans (st29.st.has 30 _ rfl) (st29.st.has 0 _ rfl).1.symm) (by simp) (.cons (tp rfl) .nil) (jZ p31) [1,6] rfl [] rfl rfl (by decide) (λ G30 M30 _ _ st30=>?_)
 have st33:=st30.gs (Gs':=[oneB none,oneB none,oneB none,oneB none,G30,oneB none]) rfl
 refine st33.segA 1 [1,6,7] [(0,4)] (λ _ _ st34=>?_)
 refine wpList_nil (za ?_)
 refine st34.sqA [1,6,7,34] [(0,4)] (λ _ _ st35=>?_)
 refine st35.cs rfl h32 (λ _ h36=>?_) (λ _ h37=>?_)
 ·
  refine wp_seq (wp_region_list ?_)
  refine st35.segB 2 (sc rfl (oM rfl (zg rfl))<|sc rfl (oM rfl (tp rfl))<|.nil) [7,35,36] [(0,4)] (λ _ _ st38=>?_)
  obtain⟨v40,p40,h41⟩:=bs h36
  refine st38.cSF (l:=[.const (.int .i64 3),.tmp 36]) 4 (st38.bkN (s:=0) rfl iI) rfl rfl kN214 (Eq.trans (st38.st.has 35 _ rfl) (st38.st.has 0 _ rfl).1.symm) (by simp) (.cons cI (.cons (tp rfl) .nil)) (FnS.any (Z5 p40)) [7] rfl [] rfl rfl (by decide) (λ G39 M39 _ _ st39=>?_)
  have st42:=st39.gs (Gs':=[oneB none,oneB none,oneB none,oneB none,G39,oneB none]) rfl
  refine wpList_nil (za ?_)
  refine st42.sqA [4] [(0,4)] (λ _ _ st43=>?_)
  refine wp_ret (zd ?_)
  exact st43.rsF (s:=0) 4 rfl rfl rfl iI (bxr h41) yb
 refine wp_skip (za (wp_seq (wp_region_list ?_)))
 refine st35.segB 2 (sc rfl (oM rfl (zg rfl))<|sc rfl (oM rfl (tp rfl))<|.nil) [1,6,39,40] [(0,4)] (λ _ _ st44=>?_)
 obtain⟨v46,p46,h47⟩:=bs h37
 refine st44.cSF (l:=[.tmp 40]) 4 (st44.bkN (s:=0) rfl iI) rfl rfl kN215 (Eq.trans (st44.st.has 39 _ rfl) (st44.st.has 0 _ rfl).1.symm) (by simp) (.cons (tp rfl) .nil) (WP p46) [1,6] rfl [] rfl rfl (by decide) (λ G45 M45 _ _ st45=>?_)
 have st48:=st45.gs (Gs':=[oneB none,oneB none,oneB none,oneB none,G45,oneB none]) rfl
 refine st48.alloc 5 rfl rfl kZ119 W5 (by simp) [1,6,41] rfl [0] rfl rfl (λ b50 M50 _ _ st50=>?_)
 have st51:=st50.gs (Gs':=[oneB none,oneB none,oneB none,oneB none,G45,oneB (some b50)]) rfl
 refine st51.store (sb:=8) 5 FldS.id rfl rfl rfl ju rfl rfl (tp rfl) rfl [1,6] rfl [0] rfl rfl (λ M53 _ st53=>?_)
 have st54:=st53.frzX 5 (s:=8) rfl rfl [1,6] rfl [0] rfl
 have st55:=st54.gs (Gs':=[oneB none,oneB none,oneB none,oneB none,G45,oneB none]) rfl
 refine wpList_nil (za (wp_seq ?_))
 refine st55.sqA [1,6,8,44] [(0,4)] (λ _ _ st56=>?_)
 refine st56.cs rfl h47 (λ _ h57=>?_) (λ _ h58=>?_)
 ·
  refine wp_seq (wp_region_list ?_)
  refine st56.segB 3 (sc rfl (oM rfl (zg rfl))<|sc rfl (xNc rfl (tp rfl))<|sc rfl (xFa rfl qQ (tp rfl))<|.nil) [47] [(0,4)] (λ _ _ st59=>?_)
  refine st59.stF (sb:=0) 4 ((PV.root.box rfl).fld owRunner.f5) rfl rfl rfl kT3 (by simp) (tp rfl) cI rfl rfl iI [] rfl [] rfl rfl (λ _ st60=>?_)
  refine wpList_nil (za ?_)
  refine st60.sqA [4] [(0,4)] (λ _ _ st61=>?_)
  refine wp_ret (zd ?_)
  exact st61.rsF (s:=0) 4 rfl rfl rfl iI (bxr h57) yb
 refine wp_skip (za ?_)
 refine st56.hdR (s:=0) 4 true (λ _=>((PV.root.box rfl).fld owRunner.f2)) rfl rfl iI [] rfl (λ g62 A62 _ hA62 st62=>?_)
 refine st62.sqB (sc rfl (oM rfl (zg rfl))<|sc rfl (xNc rfl (tp rfl))<|sc rfl (xFa rfl wD (tp rfl))<|sc rfl (xLc (sb:=0) (.head _) rfl rfl rfl kT67 (tp rfl) rfl)<|sc rfl (xLe rfl kL67 (tp rfl))<|sc rfl (oA rfl (tp rfl))<|.nil) [1,6,8,9] [(0,4)] (λ _ _ st63=>?_)
 have st64:=st63.ncf (s:=0) 4 rfl rfl iI [] rfl
 obtain⟨o65,p65,k65⟩:=bs h58
 refine zo (λ a w=>∃ M1 q65_0 q65_1 q65_2 q65_3 q65_4 q65_5,Sx (Frm.chg w0 G) 119 M M1 [q65_0,q65_1,q65_2,q65_3,q65_4,oneB q65_5] [(1,dt x1),(6,dt v17),(8,dptr v46.2),(9,dt (v46.1.mods.length:Int))] [(0,4,dnm oRun q65_4 ⟨o65⟩ (.pointer (some ⟨b0,0,none⟩)) [])] a w) ?_ ?_
 ·
  refine st64.opn (s:=8) rfl (λ b66 o66 c66 st66=>?_)
  refine st66.held (λ w=>CellsAt w b66 o66 c66) zK (λ _ st67=>?_)
  refine st67.tkN (i:=0) (sb:=0) rfl rfl (by decide +kernel) (by decide +kernel) (by decide +kernel) (λ _ _ _ _ h=>h) (st67.pkS (s:=8) rfl) rfl rfl rfl (λ _ st68=>?_)
  refine st68.tkN (i:=1) (sb:=0) rfl rfl (by decide +kernel) (by decide +kernel) (by decide +kernel) (λ _ _ _ _ h=>h) (st68.pkS (s:=8) rfl) rfl rfl rfl (λ _ st69=>?_)
  refine st69.tk (i:=2) rfl rfl (by decide +kernel) (by decide +kernel) (by decide +kernel) (λ _ _ _ h=>h) (st69.pkS (s:=8) rfl) (yNc rfl (st69.st.has 54 _ rfl)) (λ _ st70=>?_)
  refine st70.tk (i:=3) rfl rfl (by decide +kernel) (by decide +kernel) (by decide +kernel) (λ _ _ _ h=>h) (st70.pkS (s:=8) rfl) (yFa rfl wD (st70.st.has 55 _ rfl)) (λ _ st71=>?_)
  refine st71.tkM (i:=5) (sb:=1) rfl rfl (by decide +kernel) (by decide +kernel) (by decide +kernel) (λ _ _ _ _ h=>h) (st71.pkS (s:=8) rfl) rfl rfl rfl rfl (λ _ st72=>?_)
  refine st72.tkA (i:=6) (sb:=8) rfl rfl (by decide +kernel) (by decide +kernel) (by decide +kernel) (λ _ _ _ _ h=>h) rfl rfl kF119_0 rfl (λ _ st73=>?_)
  refine st73.tkF (i:=7) (sb:=8) (s2:=59) Spec.fld0 rfl rfl (by decide +kernel) (by decide +kernel) (by decide +kernel) (λ _ _ _ _ h=>h) rfl rfl rfl kT3 rfl (λ _ st74=>?_)
  refine st74.tkA (i:=8) (sb:=8) rfl rfl (by decide +kernel) (by decide +kernel) (by decide +kernel) (λ _ _ _ _ h=>h) rfl rfl kF119_2 rfl (λ _ st75=>?_)
  refine st75.tkF (i:=9) (sb:=8) (s2:=61) Spec.fld2 rfl rfl (by decide +kernel) (by decide +kernel) (by decide +kernel) (λ _ _ _ _ h=>h) rfl rfl rfl kT25 rfl (λ _ st76=>?_)
  obtain⟨v86,p86,h93⟩:=bs p65
  refine aH2 (i:=4) (j:=10) (by decide +kernel) rfl rfl ?_ ?_
  ·
   refine st76.hdR (s:=0) 4 true (λ _=>((PV.root.box rfl).fld owRunner.f2)) rfl rfl iI [] rfl (λ g94 A94 _ hA94 st94=>?_)
   refine st94.segB 1 (sc rfl (xLc (sb:=0) (.head _) rfl rfl rfl kT67 (tp rfl) rfl)<|.nil) [1,6,8,9,53,57,58,60,62] [(0,4)] (λ _ _ st95=>?_)
   refine aHN (st95.pkS (s:=8) rfl) ?_
   refine aH1 (i:=10) (by decide +kernel) rfl ?_
   refine st95.bldW (ow:=(owGModR oAtt)) (parts:=[(0,.tmp 58),(1,.tmp 60),(2,.tmp 62),(3,.const (.bool true))]) (ns:=[1,1,1,1,1,1]) (zs:=zpGMod) (x:=(⟨x1,v46.2.kind,v46.2.roots,true,false,[]⟩:GMod)) 1 [] rfl rfl rfl kB111 kC111 (by
 intro p hp;simp only[List.mem_cons,List.not_mem_nil,or_false] at hp
 rcases hp with rfl | rfl | rfl | rfl
 ·
  exact⟨by decide,Rep.len (α:=Str) (OpdR.cells (tp rfl) (λ s y hs=>st95.st.has s y hs))⟩
 ·
  exact⟨by decide,Rep.len (α:=Int) (OpdR.cells (tp rfl) (λ s y hs=>st95.st.has s y hs))⟩
 ·
  exact⟨by decide,Rep.len (α:=List Int) (OpdR.cells (tp rfl) (λ s y hs=>st95.st.has s y hs))⟩
 ·
  exact⟨by decide,rfl⟩) (((owGModR oAtt)).more (owGModR.mk (x:=(⟨x1,v46.2.kind,v46.2.roots,true,false,[]⟩:GMod)) (OpdR.cells (tp rfl) (λ s y hs=>st95.st.has s y hs)) (OpdR.cells (tp rfl) (λ s y hs=>st95.st.has s y hs)) (OpdR.cells (tp rfl) (λ s y hs=>st95.st.has s y hs)) (OpdR.cells cB (λ s y hs=>st95.st.has s y hs)) ⟨rfl,trivial⟩ (Ow.row_z _ _)) (λ b=>(λ hb=>hb.elim))) (by simp) [1,6,8,9,53,57] rfl [0] rfl rfl rfl (λ G96 _ _ st96=>?_)
   have st97:=st96.gs (Gs':=[oneB none,G96,oneB none,oneB none,G45,oneB none]) rfl
   refine aHN (st97.pkS (s:=8) rfl) ?_
   refine aH1 (i:=11) (by decide +kernel) rfl ?_
   refine st97.litW (oe:=(owGModR oAtt)) (opds:=[.tmp 63]) (xs:=[(⟨x1,v46.2.kind,v46.2.roots,true,false,[]⟩:GMod)]) 2 [1] rfl rfl kI67 kY67 rfl rfl (by decide) rfl (by decide) (Wb (jl (st97.st.has 63 _ rfl)) (λ b hb=>⟨1,by simp,hb⟩)) (λ q hq=>by
 simp only[List.mem_cons,List.not_mem_nil,or_false] at hq
 subst hq
 exact Ow.len _ (jl (st97.st.has 63 _ rfl))) (by simp) [1,6,8,9,53,57] rfl [0] rfl rfl rfl (by decide) (λ G98 M98 _ _ st98=>?_)
   have st99:=st98.gs (Gs':=[oneB none,oneB none,G98,oneB none,G45,oneB none]) rfl
   refine aHN (st99.pkS (s:=8) rfl) ?_
   refine aH1 (i:=12) (by decide +kernel) rfl ?_
   refine st99.mvG (s:=57) (sb:=0) 4 3 ((PV.root.box rfl).fld owRunner.f2) (.head _) rfl (yo rfl rfl) rfl (by simp) (by simp) (by decide) rfl iI [1,6,8,9,53] rfl [64] rfl rfl rfl rfl (λ G101 H101 st101=>?_)
   have st102:=st101.gs (Gs':=[oneB none,oneB none,G98,H101,G101,oneB none]) rfl
   refine st102.appW 3 2 rfl rfl kE67 rfl rfl (by simp) (by simp) (by decide) iI iI p86 [1,6,8,9,53] rfl [0] rfl rfl rfl (λ G100 M100 _ _ st100=>?_)
   have st103:=st100.gs (Gs':=[oneB none,oneB none,oneB none,G100,G101,oneB none]) rfl
   refine aHN (st103.pkS (s:=8) rfl) ?_
   refine aH1 (i:=13) (by decide +kernel) rfl ?_
   refine st103.segB 1 (sc rfl (xNc rfl (tp rfl))<|.nil) [1,6,8,9,66] [(0,4),(65,3)] (λ _ _ st104=>?_)
   refine aHN (st104.pkS (s:=8) rfl) ?_
   refine aH1 (i:=14) (by decide +kernel) rfl ?_
   refine st104.segB 1 (sc rfl (xFa rfl wD (tp rfl))<|.nil) [1,6,8,9,67] [(0,4),(65,3)] (λ _ _ st105=>?_)
   refine aHN (st105.pkS (s:=8) rfl) ?_
   refine aH1 (i:=15) (by decide +kernel) rfl ?_
   refine st105.stH (sb:=0) (tv:=65) 4 3 rfl rfl rfl kT67 (by simp) (by simp) (by decide) (tp rfl) rfl rfl iI iI [1,6,8,9] rfl [] rfl rfl rfl (λ G106 _ st106=>?_)
   have st107:=st106.gs (Gs':=[oneB none,oneB none,oneB none,oneB none,G106,oneB none]) rfl
   refine aHN (st107.pkS (s:=8) rfl) ?_
   refine aH0 (by decide +kernel) ?_
   have st108:=st107.clo (s:=8) rfl
   refine za ?_
   obtain rfl:=Option.some.inj h93
   exact⟨_,_,_,_,_,_,_,st108.sel [1,6,8,9] rfl [(0,4)] rfl iT⟩
  ·
   refine st76.bldW (ow:=(owGModR oAtt)) (parts:=[(0,.tmp 58),(1,.tmp 60),(2,.tmp 62),(3,.const (.bool true))]) (ns:=[1,1,1,1,1,1]) (zs:=zpGMod) (x:=(⟨x1,v46.2.kind,v46.2.roots,true,false,[]⟩:GMod)) 1 [] rfl rfl rfl kB111 kC111 (by
 intro p hp;simp only[List.mem_cons,List.not_mem_nil,or_false] at hp
 rcases hp with rfl | rfl | rfl | rfl
 ·
  exact⟨by decide,Rep.len (α:=Str) (OpdR.cells (tp rfl) (λ s y hs=>st76.st.has s y hs))⟩
 ·
  exact⟨by decide,Rep.len (α:=Int) (OpdR.cells (tp rfl) (λ s y hs=>st76.st.has s y hs))⟩
 ·
  exact⟨by decide,Rep.len (α:=List Int) (OpdR.cells (tp rfl) (λ s y hs=>st76.st.has s y hs))⟩
 ·
  exact⟨by decide,rfl⟩) (((owGModR oAtt)).more (owGModR.mk (x:=(⟨x1,v46.2.kind,v46.2.roots,true,false,[]⟩:GMod)) (OpdR.cells (tp rfl) (λ s y hs=>st76.st.has s y hs)) (OpdR.cells (tp rfl) (λ s y hs=>st76.st.has s y hs)) (OpdR.cells (tp rfl) (λ s y hs=>st76.st.has s y hs)) (OpdR.cells cB (λ s y hs=>st76.st.has s y hs)) ⟨rfl,trivial⟩ (Ow.row_z _ _)) (λ b=>(λ hb=>hb.elim))) (by simp) [1,6,8,9,53,56] rfl [0] rfl rfl rfl (λ G109 _ _ st109=>?_)
   have st110:=st109.gs (Gs':=[oneB none,G109,oneB none,oneB none,G45,oneB none]) rfl
   refine aHN (st110.pkS (s:=8) rfl) ?_
   refine aH2 (i:=4) (j:=11) (by decide +kernel) rfl rfl ?_ ?_
   ·
    refine st110.hdR (s:=0) 4 true (λ _=>((PV.root.box rfl).fld owRunner.f2)) rfl rfl iI [63] rfl (λ g111 A111 _ hA111 st111=>?_)
    refine st111.segB 1 (sc rfl (xLc (sb:=0) (.head _) rfl rfl rfl kT67 (tp rfl) rfl)<|.nil) [1,6,8,9,53,57] [(0,4),(63,1)] (λ _ _ st112=>?_)
    refine aHN (st112.pkS (s:=8) rfl) ?_
    refine aH1 (i:=11) (by decide +kernel) rfl ?_
    refine st112.litW (oe:=(owGModR oAtt)) (opds:=[.tmp 63]) (xs:=[(⟨x1,v46.2.kind,v46.2.roots,true,false,[]⟩:GMod)]) 2 [1] rfl rfl kI67 kY67 rfl rfl (by decide) rfl (by decide) (Wb (jl (st112.st.has 63 _ rfl)) (λ b hb=>⟨1,by simp,hb⟩)) (λ q hq=>by
 simp only[List.mem_cons,List.not_mem_nil,or_false] at hq
 subst hq
 exact Ow.len _ (jl (st112.st.has 63 _ rfl))) (by simp) [1,6,8,9,53,57] rfl [0] rfl rfl rfl (by decide) (λ G113 M113 _ _ st113=>?_)
    have st114:=st113.gs (Gs':=[oneB none,oneB none,G113,oneB none,G45,oneB none]) rfl
    refine aHN (st114.pkS (s:=8) rfl) ?_
    refine aH1 (i:=12) (by decide +kernel) rfl ?_
    refine st114.mvG (s:=57) (sb:=0) 4 3 ((PV.root.box rfl).fld owRunner.f2) (.head _) rfl (yo rfl rfl) rfl (by simp) (by simp) (by decide) rfl iI [1,6,8,9,53] rfl [64] rfl rfl rfl rfl (λ G116 H116 st116=>?_)
    have st117:=st116.gs (Gs':=[oneB none,oneB none,G113,H116,G116,oneB none]) rfl
    refine st117.appW 3 2 rfl rfl kE67 rfl rfl (by simp) (by simp) (by decide) iI iI p86 [1,6,8,9,53] rfl [0] rfl rfl rfl (λ G115 M115 _ _ st115=>?_)
    have st118:=st115.gs (Gs':=[oneB none,oneB none,oneB none,G115,G116,oneB none]) rfl
    refine aHN (st118.pkS (s:=8) rfl) ?_
    refine aH1 (i:=13) (by decide +kernel) rfl ?_
    refine st118.segB 1 (sc rfl (xNc rfl (tp rfl))<|.nil) [1,6,8,9,66] [(0,4),(65,3)] (λ _ _ st119=>?_)
    refine aHN (st119.pkS (s:=8) rfl) ?_
    refine aH1 (i:=14) (by decide +kernel) rfl ?_
    refine st119.segB 1 (sc rfl (xFa rfl wD (tp rfl))<|.nil) [1,6,8,9,67] [(0,4),(65,3)] (λ _ _ st120=>?_)
    refine aHN (st120.pkS (s:=8) rfl) ?_
    refine aH1 (i:=15) (by decide +kernel) rfl ?_
    refine st120.stH (sb:=0) (tv:=65) 4 3 rfl rfl rfl kT67 (by simp) (by simp) (by decide) (tp rfl) rfl rfl iI iI [1,6,8,9] rfl [] rfl rfl rfl (λ G121 _ st121=>?_)
    have st122:=st121.gs (Gs':=[oneB none,oneB none,oneB none,oneB none,G121,oneB none]) rfl
    refine aHN (st122.pkS (s:=8) rfl) ?_
    refine aH0 (by decide +kernel) ?_
    have st123:=st122.clo (s:=8) rfl
    refine za ?_
    obtain rfl:=Option.some.inj h93
    exact⟨_,_,_,_,_,_,_,st123.sel [1,6,8,9] rfl [(0,4)] rfl iT⟩
   ·
    refine st110.litW (oe:=(owGModR oAtt)) (opds:=[.tmp 63]) (xs:=[(⟨x1,v46.2.kind,v46.2.roots,true,false,[]⟩:GMod)]) 2 [1] rfl rfl kI67 kY67 rfl rfl (by decide) rfl (by decide) (Wb (jl (st110.st.has 63 _ rfl)) (λ b hb=>⟨1,by simp,hb⟩)) (λ q hq=>by
 simp only[List.mem_cons,List.not_mem_nil,or_false] at hq
 subst hq
 exact Ow.len _ (jl (st110.st.has 63 _ rfl))) (by simp) [1,6,8,9,53,56] rfl [0] rfl rfl rfl (by decide) (λ G124 M124 _ _ st124=>?_)
    have st125:=st124.gs (Gs':=[oneB none,oneB none,G124,oneB none,G45,oneB none]) rfl
    refine aHN (st125.pkS (s:=8) rfl) ?_
    refine aH1 (i:=4) (by decide +kernel) rfl ?_
    refine st125.hdR (s:=0) 4 true (λ _=>((PV.root.box rfl).fld owRunner.f2)) rfl rfl iI [64] rfl (λ g126 A126 _ hA126 st126=>?_)
    refine st126.segB 1 (sc rfl (xLc (sb:=0) (.head _) rfl rfl rfl kT67 (tp rfl) rfl)<|.nil) [1,6,8,9,53,57] [(0,4),(64,2)] (λ _ _ st127=>?_)
    refine aHN (st127.pkS (s:=8) rfl) ?_
    refine aH1 (i:=12) (by decide +kernel) rfl ?_
    refine st127.mvG (s:=57) (sb:=0) 4 3 ((PV.root.box rfl).fld owRunner.f2) (.head _) rfl (yo rfl rfl) rfl (by simp) (by simp) (by decide) rfl iI [1,6,8,9,53] rfl [64] rfl rfl rfl rfl (λ G129 H129 st129=>?_)
    have st130:=st129.gs (Gs':=[oneB none,oneB none,G124,H129,G129,oneB none]) rfl
    refine st130.appW 3 2 rfl rfl kE67 rfl rfl (by simp) (by simp) (by decide) iI iI p86 [1,6,8,9,53] rfl [0] rfl rfl rfl (λ G128 M128 _ _ st128=>?_)
    have st131:=st128.gs (Gs':=[oneB none,oneB none,oneB none,G128,G129,oneB none]) rfl
    refine aHN (st131.pkS (s:=8) rfl) ?_
    refine aH1 (i:=13) (by decide +kernel) rfl ?_
    refine st131.segB 1 (sc rfl (xNc rfl (tp rfl))<|.nil) [1,6,8,9,66] [(0,4),(65,3)] (λ _ _ st132=>?_)
    refine aHN (st132.pkS (s:=8) rfl) ?_
    refine aH1 (i:=14) (by decide +kernel) rfl ?_
    refine st132.segB 1 (sc rfl (xFa rfl wD (tp rfl))<|.nil) [1,6,8,9,67] [(0,4),(65,3)] (λ _ _ st133=>?_)
    refine aHN (st133.pkS (s:=8) rfl) ?_
    refine aH1 (i:=15) (by decide +kernel) rfl ?_
    refine st133.stH (sb:=0) (tv:=65) 4 3 rfl rfl rfl kT67 (by simp) (by simp) (by decide) (tp rfl) rfl rfl iI iI [1,6,8,9] rfl [] rfl rfl rfl (λ G134 _ st134=>?_)
    have st135:=st134.gs (Gs':=[oneB none,oneB none,oneB none,oneB none,G134,oneB none]) rfl
    refine aHN (st135.pkS (s:=8) rfl) ?_
    refine aH0 (by decide +kernel) ?_
    have st136:=st135.clo (s:=8) rfl
    refine za ?_
    obtain rfl:=Option.some.inj h93
    exact⟨_,_,_,_,_,_,_,st136.sel [1,6,8,9] rfl [(0,4)] rfl iT⟩
 rintro a65 w65 ⟨M65,q65_0,q65_1,q65_2,q65_3,q65_4,q65_5,st65⟩
 have h137:=k65
 refine wp_seq (wp_region_list ?_)
 refine st65.segB 2 (sc rfl (oM rfl (zg rfl))<|sc rfl (oM rfl (tp rfl))<|.nil) [1,6,8,9,68,69] [(0,4)] (λ _ _ st138=>?_)
 obtain⟨v140,p140,h141⟩:=bs h137
 refine st138.cSF (l:=[.const (.int .i64 0),.tmp 69]) 4 (st138.bkN (s:=0) rfl iI) rfl rfl kN214 (Eq.trans (st138.st.has 68 _ rfl) (st138.st.has 0 _ rfl).1.symm) (by simp) (.cons cI (.cons (tp rfl) .nil)) (FnS.any (Z5 p140)) [1,6,8,9] rfl [] rfl rfl (by decide) (λ G139 M139 _ _ st139=>?_)
 have st142:=st139.gs (Gs':=[q65_0,q65_1,q65_2,q65_3,G139,oneB q65_5]) rfl
 refine wpList_nil (za ?_)
 obtain⟨o143,p143,k143⟩:=bs h141
 refine zo (λ a w=>∃ M1 q143_0 q143_1 q143_2 q143_3 q143_4 q143_5,Sx (Frm.chg w0 G) 119 M M1 [q143_0,q143_1,q143_2,q143_3,q143_4,oneB q143_5] [(1,dt x1),(6,dt v17),(9,dt (v46.1.mods.length:Int))] [(0,4,dnm oRun q143_4 ⟨o143⟩ (.pointer (some ⟨b0,0,none⟩)) [])] a w) ?_ ?_
 ·
  refine st142.sqA [1,6,8,9,73] [(0,4)] (λ _ _ st144=>?_)
  refine st144.cs rfl p143 (λ _ h145=>?_) (λ _ h146=>?_)
  ·
   refine wp_region_list ?_
   refine st144.segB 5 (sc rfl (oM rfl (zg rfl))<|sc rfl (oM rfl (tp rfl))<|sc rfl (oM rfl (zg rfl))<|sc rfl (zh Spec.fld1 rfl kF119_1 (tp rfl))<|sc rfl (ze rfl kT3 (tp rfl))<|.nil) [1,6,9,74,75,76,78] [(0,4)] (λ _ _ st147=>?_)
   obtain⟨v149,p149,h150⟩:=bs h145
   refine st147.cSF (l:=[.tmp 78]) 4 (st147.bkN (s:=0) rfl iI) rfl rfl kN217 (Eq.trans (st147.st.has 76 _ rfl) (st147.st.has 0 _ rfl).1.symm) (by simp) (.cons (tp rfl) .nil) (spec_bodyOf_w p149) [1,6,9,74,75] rfl [] rfl rfl (by decide) (λ G148 M148 _ _ st148=>?_)
   have st151:=st148.gs (Gs':=[q65_0,q65_1,q65_2,q65_3,G148,oneB q65_5]) rfl
   obtain⟨v153,p153,h154⟩:=bs h150
   refine st151.cSF (l:=[.tmp 75,.tmp 79]) 4 (st151.bkN (s:=0) rfl iI) rfl rfl kN216 (Eq.trans (st151.st.has 74 _ rfl) (st151.st.has 0 _ rfl).1.symm) (by simp) (.cons (tp rfl) (.cons (tp rfl) .nil)) (FnS.any (hR.spec_runBody p153)) [1,6,9] rfl [] rfl rfl (by decide) (λ G152 M152 _ _ st152=>?_)
   have st155:=st152.gs (Gs':=[q65_0,q65_1,q65_2,q65_3,G152,oneB q65_5]) rfl
   refine wpList_nil (za ?_)
   obtain rfl:=Option.some.inj h154
   exact⟨_,_,_,_,_,_,_,st155.sel [1,6,9] rfl [(0,4)] rfl iT⟩
  refine wp_skip (za ?_)
  obtain rfl:=Option.some.inj h146
  exact⟨_,_,_,_,_,_,_,st144.sel [1,6,9] rfl [(0,4)] rfl iT⟩
 rintro a143 w143 ⟨M143,q143_0,q143_1,q143_2,q143_3,q143_4,q143_5,st143⟩
 have h156:=k143
 refine wp_seq ?_
 refine st143.sqB (sc rfl (oM rfl (zg rfl))<|sc rfl (xNc rfl (tp rfl))<|sc rfl (xFa rfl qQ (tp rfl))<|sc rfl (xLf (sb:=0) ((PV.root.box rfl).fld owRunner.f5) rfl kT3 (tp rfl) rfl)<|sc rfl (oCI rfl (tp rfl) cI)<|.nil) [1,6,9,85] [(0,4)] (λ _ _ st157=>?_)
 refine st157.cs rfl h156 (λ _ h158=>?_) (λ _ h159=>?_)
 ·
  refine wp_seq (wp_region_list ?_)
  obtain⟨v161,p161,h162⟩:=bs h158
  refine st157.hdR (s:=0) 4 true (λ _=>((PV.root.box rfl).fld owRunner.f2)) rfl rfl iI [] rfl (λ g160 A160 _ hA160 st160=>?_)
  refine st160.segB 7 (sc rfl (oM rfl (zg rfl))<|sc rfl (xNc rfl (tp rfl))<|sc rfl (xFa rfl wD (tp rfl))<|sc rfl (xLc (sb:=0) (.head _) rfl rfl rfl kT67 (tp rfl) rfl)<|sc rfl (oM rfl (tp rfl))<|sc rfl (xIa (g:=g160) rfl kS67 (tp rfl) (tp rfl) rfl (λ h=>hA160 h rfl) p161)<|sc rfl (xFa rfl JA (tp rfl))<|.nil) [1,92] [(0,4)] (λ _ _ st163=>?_)
  refine st163.stF (sb:=0) 4 ((((PV.root.box rfl).fld owRunner.f2).row (.head _) rfl (λ h=>hA160 h rfl) p161).fld owGModR.f3) rfl rfl rfl kT4 (by simp) (tp rfl) cB rfl rfl iI [1] rfl [] rfl rfl (λ _ st164=>?_)
  refine wpList_nil (za (wp_seq (wp_region_list ?_)))
  refine st164.segB 2 (sc rfl (oM rfl (zg rfl))<|sc rfl (oM rfl (tp rfl))<|.nil) [93,94] [(0,4)] (λ _ _ st165=>?_)
  obtain⟨v167,p167,h168⟩:=bs h162
  refine st165.cSF (l:=[.const (.int .i64 2),.tmp 94]) 4 (st165.bkN (s:=0) rfl iI) rfl rfl kN214 (Eq.trans (st165.st.has 93 _ rfl) (st165.st.has 0 _ rfl).1.symm) (by simp) (.cons cI (.cons (tp rfl) .nil)) (FnS.any (Z5 p167)) [] rfl [] rfl rfl (by decide) (λ G166 M166 _ _ st166=>?_)
  have st169:=st166.gs (Gs':=[q143_0,q143_1,q143_2,q143_3,G166,oneB q143_5]) rfl
  refine wpList_nil (za ?_)
  refine st169.sqA [4] [(0,4)] (λ _ _ st170=>?_)
  refine wp_ret (zd ?_)
  exact st170.rsF (s:=0) 4 rfl rfl rfl iI (bxr h168) yb
 refine wp_skip (za (wp_seq (wp_region_list ?_)))
 obtain⟨v172,p172,h173⟩:=bs h159
 refine st157.hdR (s:=0) 4 true (λ _=>((PV.root.box rfl).fld owRunner.f2)) rfl rfl iI [] rfl (λ g171 A171 _ hA171 st171=>?_)
 refine st171.segB 7 (sc rfl (oM rfl (zg rfl))<|sc rfl (xNc rfl (tp rfl))<|sc rfl (xFa rfl wD (tp rfl))<|sc rfl (xLc (sb:=0) (.head _) rfl rfl rfl kT67 (tp rfl) rfl)<|sc rfl (oM rfl (tp rfl))<|sc rfl (xIa (g:=g171) rfl kS67 (tp rfl) (tp rfl) rfl (λ h=>hA171 h rfl) p172)<|sc rfl (xFa rfl kF111_4 (tp rfl))<|.nil) [1,6,9,102] [(0,4)] (λ _ _ st174=>?_)
 refine st174.stF (sb:=0) 4 ((((PV.root.box rfl).fld owRunner.f2).row (.head _) rfl (λ h=>hA171 h rfl) p172).fld owGModR.f4) rfl rfl rfl kT4 (by simp) (tp rfl) cB rfl rfl iI [1,6,9] rfl [] rfl rfl (λ _ st175=>?_)
 refine wpList_nil (za (wp_seq (wp_region_list ?_)))
 refine st175.segB 2 (sc rfl (oM rfl (zg rfl))<|sc rfl (oM rfl (tp rfl))<|.nil) [1,6,9,103,104] [(0,4)] (λ _ _ st176=>?_)
 obtain⟨v178,p178,h179⟩:=bs h173
 refine st176.cSF (l:=[.const (.int .i64 1),.tmp 104]) 4 (st176.bkN (s:=0) rfl iI) rfl rfl kN214 (Eq.trans (st176.st.has 103 _ rfl) (st176.st.has 0 _ rfl).1.symm) (by simp) (.cons cI (.cons (tp rfl) .nil)) (FnS.any (Z5 p178)) [1,6,9] rfl [] rfl rfl (by decide) (λ G177 M177 _ _ st177=>?_)
 have st180:=st177.gs (Gs':=[q143_0,q143_1,q143_2,q143_3,G177,oneB q143_5]) rfl
 refine wpList_nil (za ?_)
 obtain⟨o181,p181,k181⟩:=bs h179
 refine zo (λ a w=>∃ M1 q181_0 q181_1 q181_2 q181_3 q181_4 q181_5,Sx (Frm.chg w0 G) 119 M M1 [q181_0,q181_1,q181_2,q181_3,q181_4,oneB q181_5] [(9,dt (v46.1.mods.length:Int))] [(0,4,dnm oRun q181_4 ⟨o181⟩ (.pointer (some ⟨b0,0,none⟩)) [])] a w) ?_ ?_
 ·
  refine wp_seq (wp_region_list ?_)
  refine st180.segB 2 (sc rfl (oM rfl (zg rfl))<|sc rfl (oM rfl (tp rfl))<|.nil) [1,9,106,107] [(0,4)] (λ _ _ st182=>?_)
  obtain⟨v184,p184,h185⟩:=bs p181
  refine st182.cSF (l:=[.tmp 107]) 4 (st182.bkN (s:=0) rfl iI) rfl rfl kN112 (Eq.trans (st182.st.has 106 _ rfl) (st182.st.has 0 _ rfl).1.symm) (by simp) (.cons (tp rfl) .nil) (jZ p184) [1,9] rfl [] rfl rfl (by decide) (λ G183 M183 _ _ st183=>?_)
  have st186:=st183.gs (Gs':=[q143_0,q143_1,q143_2,q143_3,G183,oneB q143_5]) rfl
  refine st186.segA 1 [1,9,10] [(0,4)] (λ _ _ st187=>?_)
  refine wpList_nil (za ?_)
  refine st187.sqA [1,9,10,110] [(0,4)] (λ _ _ st188=>?_)
  refine st188.cs rfl h185 (λ _ h189=>?_) (λ _ h190=>?_)
  ·
   refine wp_region_list ?_
   obtain⟨v191,p191,h192⟩:=bs h189
   refine st188.segB 6 (sc rfl (oM rfl (zg rfl))<|sc rfl (oM rfl (tp rfl))<|sc rfl (oM rfl (tp rfl))<|sc rfl (zq (l:=[.tmp 113]) rfl kN219 (.cons (tp rfl) .nil) (QE p191))<|sc rfl (oM rfl (tp rfl))<|sc rfl (zV (parts:=[(0,.const (.int .i64 1)),(1,.tmp 115)]) (ns:=[1,1]) (zs:=Yc) rfl rfl Wd We (λ w a hl=>by
 intro p hp;simp only[List.mem_cons,List.not_mem_nil,or_false] at hp
 rcases hp with rfl | rfl
 ·
  exact⟨by decide,rfl⟩
 ·
  exact⟨by decide,Rep.len (α:=Int) (OpdR.cells (tp rfl) hl)⟩) (λ w a hl=>GVal.parts (x:=(⟨(1:Int),(v46.1.mods.length:Int)⟩:GVal)) (OpdR.cells cI hl) (OpdR.cells (tp rfl) hl)))<|.nil) [9,111,112,114,116] [(0,4)] (λ _ _ st193=>?_)
   obtain⟨v195,p195,h196⟩:=bs h192
   refine st193.cSF (l:=[.tmp 112,.tmp 114,.tmp 116]) 4 (st193.bkN (s:=0) rfl iI) rfl rfl kN218 (Eq.trans (st193.st.has 111 _ rfl) (st193.st.has 0 _ rfl).1.symm) (by simp) (.cons (tp rfl) (.cons (tp rfl) (.cons (tp rfl) .nil))) (FnS.any (qu p195)) [9] rfl [] rfl rfl (by decide) (λ G194 M194 _ _ st194=>?_)
   have st197:=st194.gs (Gs':=[q143_0,q143_1,q143_2,q143_3,G194,oneB q143_5]) rfl
   refine wpList_nil (za ?_)
   obtain rfl:=Option.some.inj h196
   exact⟨_,_,_,_,_,_,_,st197.sel [9] rfl [(0,4)] rfl iT⟩
  refine wp_skip (za ?_)
  obtain rfl:=Option.some.inj h190
  exact⟨_,_,_,_,_,_,_,st188.sel [9] rfl [(0,4)] rfl iT⟩
 rintro a181 w181 ⟨M181,q181_0,q181_1,q181_2,q181_3,q181_4,q181_5,st181⟩
 have h198:=k181
 refine st181.sqA [4] [(0,4)] (λ _ _ st199=>?_)
 refine wp_ret ?_
 exact st199.rsF (s:=0) 4 rfl rfl rfl iI (bxr h198) yb
open Go.RowKit
set_option maxRecDepth 10000
set_option maxHeartbeats 1600000
theorem kN121:fnB Tryz.prog 121=true:=by kernel_rfl
theorem kN122:fnB Tryz.prog 122=true:=by kernel_rfl
theorem kB141:bldB Tryz.prog 141 [1,1]=true:=by kernel_rfl
theorem kC141:jU Tryz.prog 141 [1,1]=some zpGCmd:=by kernel_rfl
def scc:Nat->Rec
 | 0=>Rec.no
 | n+1=>⟨jx (scc n),j7 (scc n),qz (scc n),qy (scc n),qw (scc n),ZB (scc n),wd (scc n),wy (scc n),yl (scc n)⟩
theorem Y9:∀ n,(scc n).ok
 | 0=>Rec.no_ok
 | n+1=>⟨(λ h=>JF (Y9 n) h),(λ h=>QL (Y9 n) h),(λ h=>Q5 (Y9 n) h),(λ h=>Q4 (Y9 n) h),(λ h=>Q3 (Y9 n) h),(λ h=>Q2 (Y9 n) h),(λ h=>Wg (Y9 n) h),(λ h=>WD (Y9 n) h),(λ h=>JD (Y9 n) h)⟩
def qA(R:Rec)(x0:Runner)(x1:GCmd):Option (Runner×Int):=
Option.bind (α:=Runner⊕(Runner×Int)) (if(cmpI .eql x1.kind (0:Int))=true then((R.spec_importName ({ x0 with fin:=(0:Int) }) x1.name).bind λ v11=>
some (.inl v11.1))
else none) (Sum.elim (λ b4=>
some (b4,b4.fin)) some)
theorem Q6{R:Rec}(hR:R.ok){x0:Runner}{x1:GCmd}{r:Runner×Int}(h:qA R x0 x1=some r):FnS Tryz.prog 122 oRun ⟨x0⟩ [dt x1] ⟨r.1⟩ (.frz (dt r.2)):=by
 unfold qA at h
 refine fnSB (fn:=Tryz.f122) 0 1 Tryz.func122 rfl (of_decide_eq_true rfl) rfl (λ M G w0 b0 _ st0=>?_)
 refine st0.sqA [3] [(0,0)] (λ _ _ st1=>?_)
 refine wp_seq (wp_region_list ?_)
 refine st1.segB 3 (sc rfl (oM rfl (zg rfl))<|sc rfl (xNc rfl (tp rfl))<|sc rfl (xFa rfl qQ (tp rfl))<|.nil) [3,8] [(0,0)] (λ _ _ st2=>?_)
 refine st2.stF (sb:=0) 0 ((PV.root.box rfl).fld owRunner.f5) rfl rfl rfl kT3 (by simp) (tp rfl) cI rfl rfl iI [3] rfl [] rfl rfl (λ _ st3=>?_)
 refine wpList_nil (za ?_)
 obtain⟨o4,p4,k4⟩:=bs h
 refine zo (λ a w=>∃ b4,o4=.inl b4/\(∃ M1 q4_0,Sx (Frm.chg w0 G) 42 M M1 [q4_0] [] [(0,0,dnm oRun q4_0 ⟨b4⟩ (.pointer (some ⟨b0,0,none⟩)) [])] a w)) ?_ ?_
 ·
  refine st3.sqA [3,10] [(0,0)] (λ _ _ st5=>?_)
  refine wp_block ?_
  refine st5.sqA [3,10,11] [(0,0)] (λ _ _ st6=>?_)
  refine st6.cs rfl p4 (λ _ h7=>?_) (λ _ h8=>?_)
  ·
   refine wp_region_list ?_
   refine st6.segB 3 (sc rfl (oM rfl (zg rfl))<|sc rfl (zh GCmd.fld1 rfl kF141_1 (tp rfl))<|sc rfl (ze rfl kT9 (tp rfl))<|.nil) [13,15] [(0,0)] (λ _ _ st9=>?_)
   obtain⟨v11,p11,h12⟩:=bs h7
   refine st9.cSF (l:=[.tmp 15]) 0 (st9.bkN (s:=0) rfl iI) rfl rfl kN178 (Eq.trans (st9.st.has 13 _ rfl) (st9.st.has 0 _ rfl).1.symm) (by simp) (.cons (tp rfl) .nil) (hR.spec_importName p11) [] rfl [] rfl rfl (by decide) (λ G10 M10 _ _ st10=>?_)
   refine wpList_nil (zi (za ?_))
   exact⟨_,(Option.some.inj h12).symm,⟨_,_,st10.sel [] rfl [(0,0)] rfl iT⟩⟩
  cases h8
 rintro a4 w4 ⟨b4,rfl,⟨M4,q4_0,st4⟩⟩
 have h13:=jn k4
 refine st4.sqB (sc rfl (oM rfl (zg rfl))<|sc rfl (xNc rfl (tp rfl))<|sc rfl (xFa rfl qQ (tp rfl))<|sc rfl (xLf (sb:=0) ((PV.root.box rfl).fld owRunner.f5) rfl kT3 (tp rfl) rfl)<|sc rfl (oA rfl (tp rfl))<|.nil) [4] [(0,0)] (λ _ _ st14=>?_)
 refine wp_ret ?_
 exact st14.rsF (s:=0) 0 rfl rfl rfl iI (bxr h13) yb
def qZ(R:Rec)(x2:List Str)(s11:Runner×Int):Option ((Runner×Int)⊕Runner):=
if(cmpI .lss s11.2 (x2.length:Int))=true then((atI x2 s11.2).bind λ v17=>
(qA R s11.1 (⟨(0:Int),v17⟩:GCmd)).bind λ v21=>
(i64 (s11.2+(1:Int))).bind λ v23=>
some (.inl (v21.1,v23)))
else(some (.inr s11.1))
def YH(R:Rec)(x0:Tree)(x1:List Int)(x2:List Str):Option Runner:=
(qK x0 x1 (120:Int)).bind λ v4=>
Option.bind (α:=Runner) (zX (λ s11=>qZ R x2 s11) (v4,(0:Int))) λ o8=>
some o8
theorem spec_ran_w{R:Rec}(hR:R.ok){x0:Tree}{x1:List Int}{x2:List Str}{r:Runner}(h:YH R x0 x1 x2=some r):FnN Tryz.prog 76 [dt x0,dt x1,dt x2] (.ow oRun ⟨r⟩):=by
 unfold YH at h
 refine fnN (fn:=Tryz.f76) 1 Tryz.func76 rfl (of_decide_eq_true rfl) rfl (λ M w0 _ st0=>?_)
 refine st0.sq2 (sc rfl (jf rfl (tp rfl))<|sc rfl (oA rfl Xl)<|.nil) [1,2,3] (λ _ _ st1=>?_)
 refine wp_seq (wp_region_list ?_)
 refine st1.segA 2 [2,9,10] [] (λ _ _ st2=>?_)
 obtain⟨v4,p4,h5⟩:=bs h
 refine st2.cN (l:=[.tmp 9,.tmp 10,.const (.int .i64 120)]) 0 rfl rfl kN121 (.cons (tp rfl) (.cons (tp rfl) (.cons cI .nil))) (Qf p4) (by simp) [2] rfl [] rfl rfl (λ G3 M3 _ _ st3=>?_)
 refine st3.nmB (s:=11) 0 rfl rfl iI [] rfl (λ b6 st6=>?_)
 refine st6.segA 1 [2] [(7,0)] (λ _ _ st7=>?_)
 refine wpList_nil (za ?_)
 obtain⟨o8,p8,k8⟩:=bs h5
 refine zo (λ a w=>∃ M1 q8_0,Sx (Frm.of w0) 26 M M1 [q8_0] [] [(7,0,dow oRun q8_0 ⟨o8⟩)] a w) ?_ ?_
 ·
  refine st7.sqA [2,8] [(7,0)] (λ _ _ st9=>?_)
  refine wp_block ?_
  have st10:=st9.unm (s:=7) 0 rfl rfl iI [] rfl
  refine zO p8 (λ s11 a w=>∃ M1 q11_0,Sx (Frm.of w0) 26 M M1 [q11_0] [(2,dt x2),(8,dt s11.2)] [(7,0,dow oRun q11_0 ⟨s11.1⟩)] a w) ⟨_,_,st10.sel [2,8] rfl [(7,0)] rfl iT⟩ ?_
  rintro s11 z11 a11 w11 ⟨M11,q11_0,st11⟩ hs11 hx11
  have h12:qZ R x2 s11=some z11:=hs11
  unfold qZ at h12
  refine wp_seq ?_
  refine st11.sqA [2,8,15] [(7,0)] (λ _ _ st13=>?_)
  refine st13.cs rfl h12 (λ _ h14=>?_) (λ _ h15=>?_)
  ·
   refine wp_skip (za (wp_seq (wp_block (wp_region_list ?_))))
   obtain⟨v17,p17,h18⟩:=bs h14
   refine st13.nmB (s:=7) 0 rfl rfl iI [] rfl (λ b16 st16=>?_)
   refine st16.segB 6 (sc rfl (oM rfl (tp rfl))<|sc rfl (oM rfl (tp rfl))<|sc rfl (oM rfl (tp rfl))<|sc rfl (xIdx rfl kS39 (tp rfl) (tp rfl) p17)<|sc rfl (ze rfl kT9 (tp rfl))<|sc rfl (zV (parts:=[(0,.const (.int .i64 0)),(1,.tmp 22)]) (ns:=[1,1]) (zs:=zpGCmd) rfl rfl kB141 kC141 (λ w a hl=>by
 intro p hp;simp only[List.mem_cons,List.not_mem_nil,or_false] at hp
 rcases hp with rfl | rfl
 ·
  exact⟨by decide,rfl⟩
 ·
  exact⟨by decide,Rep.len (α:=Str) (OpdR.cells (tp rfl) hl)⟩) (λ w a hl=>GCmd.parts (x:=(⟨(0:Int),v17⟩:GCmd)) (OpdR.cells cI hl) (OpdR.cells (tp rfl) hl)))<|.nil) [2,8,23] [(7,0),(18,0)] (λ _ _ st19=>?_)
   obtain⟨v21,p21,h22⟩:=bs h18
   refine st19.cSF (l:=[.tmp 23]) 0 (st19.bkN (s:=7) rfl iI) rfl rfl kN122 ((st19.st.has 18 _ rfl).1.trans (st19.st.has 7 _ rfl).1.symm) (by simp) (.cons (tp rfl) .nil) (Q6 hR p21) [2,8] rfl [] rfl rfl (by decide) (λ G20 M20 _ _ st20=>?_)
   refine wpList_nil (zi (za ?_))
   obtain⟨v23,p23,h24⟩:=bs h22
   refine st20.rgA [2,8] [(7,0)] (λ _ _ st25=>?_)
   have st26:=st25.unm (s:=7) 0 rfl rfl iI [] rfl
   refine za ?_
   exact⟨_,(Option.some.inj h24).symm,⟨_,_,st26.sel [2,8] rfl [(7,0)] rfl iT⟩⟩
  refine wp_exit (zn (zn (zG ?_)))
  refine za ?_
  have h27:=lo h15 hx11
  obtain rfl:=Option.some.inj h27
  exact⟨_,_,st13.sel [] rfl [(7,0)] rfl iT⟩
 rintro a8 w8 ⟨M8,q8_0,st8⟩
 have h28:=k8
 refine st8.nmB (s:=7) 0 rfl rfl iI [] rfl (λ b29 st29=>?_)
 refine st29.sqA [] [(6,0)] (λ _ _ st30=>?_)
 refine wp_ret ?_
 have st31:=st30.unm (s:=6) 0 rfl rfl iI [] rfl
 exact st31.rnO 0 rfl rfl iI (bx1 h28)
open Go.RowKit
set_option maxRecDepth 10000
set_option maxHeartbeats 1600000
theorem kN76:fnB Tryz.prog 76=true:=by kernel_rfl
def xN(_R:Rec)(v13:Runner)(s18:(List Str)×Int):Option (((List Str)×Int)⊕(List Str)):=
if(cmpI .lss s18.2 (v13.log.length:Int))=true then(Option.bind (α:=(List Str)) ((atI v13.log s18.2).bind λ v24=>
if(cmpI .eql v24.kind (1:Int))=true then((atI v13.log s18.2).bind λ v29=>
(appO 16 s18.1 ([v29.name]:List Str)).bind λ v34=>
some v34)
else(some s18.1)) λ o23=>
(i64 (s18.2+(1:Int))).bind λ v38=>
some (.inl (o23,v38)))
else(some (.inr s18.1))
def wT(R:Rec)(x0:Tree)(x1:List Int)(x2:Str):Option (List Str):=
(jM x0).bind λ v2=>
(gO ((!v2) == false) (jN x1)).bind λ v3=>
(gO (((!v2)||(!v3)) == false) (yX x2)).bind λ v4=>
if(((!v2)||(!v3))||(!v4))=true then(some [])
else((YH R x0 x1 ([x2]:List Str)).bind λ v13=>
Option.bind (α:=(List Str)) (zX (λ s18=>xN R v13 s18) ([],(0:Int))) λ o16=>
some o16)
theorem Xq{R:Rec}(hR:R.ok){x0:Tree}{x1:List Int}{x2:Str}{r:List Str}(h:wT R x0 x1 x2=some r):FnOwn Tryz.prog 25 [dt x0,dt x1,dt x2] 9 r:=by
 unfold wT at h
 refine fnxO (fn:=Tryz.f25) 1 Tryz.func25 rfl (of_decide_eq_true rfl) rfl (λ M w0 _ st0=>?_)
 refine st0.sq2 (sc rfl (jf rfl (tp rfl))<|sc rfl (oA rfl (Yv (α:=Str) (e:=9)))<|.nil) [1,2,3] (λ _ _ st1=>?_)
 refine wp_seq ?_
 obtain⟨v2,p2,h5⟩:=bs h
 obtain⟨v3,p3,h6⟩:=bs h5
 obtain⟨v4,p4,h7⟩:=bs h6
 refine st1.sq2 (sc rfl (ze rfl kT30 (tp rfl))<|sc rfl (zq (l:=[.tmp 10]) rfl kN73 (.cons (tp rfl) .nil) (Qb p2))<|sc rfl (yz rfl (tp rfl))<|sc rfl (oM rfl (tp rfl))<|sg rfl rfl (λ hg=>oM rfl (tp rfl))<|sg rfl rfl (λ hg=>zq (l:=[.tmp 14]) rfl kN74 (.cons (zf hg rfl) .nil) (Qc (gh hg p3)))<|sg rfl rfl (λ hg=>yz rfl (zf hg rfl))<|sc rfl (xv rfl (tp rfl) (zb rfl))<|sc rfl (oM rfl (tp rfl))<|sg rfl rfl (λ hg=>oM rfl (tp rfl))<|sg rfl rfl (λ hg=>zq (l:=[.tmp 19]) rfl kN75 (.cons (zf hg rfl) .nil) (ZK (gh hg p4)))<|sg rfl rfl (λ hg=>yz rfl (zf hg rfl))<|sc rfl (xv rfl (tp rfl) (zb rfl))<|.nil) [1,2,3,22] (λ _ _ st8=>?_)
 refine st8.cs rfl h7 (λ _ h9=>?_) (λ _ h10=>?_)
 ·
  refine st8.sqB (sc rfl (oA rfl (Yv (α:=Str) (e:=9)))<|.nil) [] [(6,0)] (λ _ _ st11=>?_)
  refine wp_ret (zd ?_)
  exact st11.ret_own 0 rfl rfl iE h9
 refine wp_skip (za ?_)
 refine st8.sqB (sc rfl (Zu (α:=Str) (e:=9) rfl kS39)<|sc rfl (oA rfl (tp rfl))<|.nil) [1,2,3] [(7,0)] (λ _ _ st12=>?_)
 obtain⟨v13,p13,h14⟩:=bs h10
 refine st12.sqB (sc rfl (ze rfl kT30 (tp rfl))<|sc rfl (oM rfl (tp rfl))<|sc rfl (oM rfl (tp rfl))<|sc rfl (yc (opds:=[.tmp 26]) rfl kS39 kY39 rfl rfl (by decide) (.cons (tp rfl) .nil))<|sc rfl (OpRel.bx (zq (l:=[.tmp 24,.tmp 25,.tmp 27]) rfl kN76 (.cons (tp rfl) (.cons (tp rfl) (.cons (tp rfl) .nil))) (FnN.fn<|spec_ran_w hR p13)))<|sc rfl (oA rfl (tp rfl))<|.nil) [8] [(7,0)] (λ _ _ st15=>?_)
 obtain⟨o16,p16,k16⟩:=bs h14
 refine zo (λ a w=>∃ M1 q16_0,Sx (Frm.of w0) 59 M M1 [oneB q16_0] [] [(7,0,dtip q16_0 9 o16)] a w) ?_ ?_
 ·
  refine st15.sqA [8,9] [(7,0)] (λ _ _ st17=>?_)
  refine wp_block ?_
  refine zO p16 (λ s18 a w=>∃ M1 q18_0,Sx (Frm.of w0) 59 M M1 [oneB q18_0] [(8,dptr v13),(9,dt s18.2)] [(7,0,dtip q18_0 9 s18.1)] a w) ⟨_,_,st17.sel [8,9] rfl [(7,0)] rfl ⟨iE,trivial⟩⟩ ?_
  rintro s18 z18 a18 w18 ⟨M18,q18_0,st18⟩ hs18 hx18
  have h19:xN R v13 s18=some z18:=hs18
  unfold xN at h19
  refine wp_seq ?_
  refine st18.sqB (sc rfl (oM rfl (tp rfl))<|sc rfl (oM rfl (tp rfl))<|sc rfl (xNcP rfl (tp rfl))<|sc rfl (zh Runner.fld3 rfl kF83_3 (tp rfl))<|sc rfl (ze rfl kT66 (tp rfl))<|sc rfl (wz rfl kL66 (tp rfl))<|sc rfl (oCI rfl (tp rfl) (tp rfl))<|.nil) [8,9,35] [(7,0)] (λ _ _ st20=>?_)
  refine st20.cs rfl h19 (λ _ h21=>?_) (λ _ h22=>?_)
  ·
   refine wp_skip (za ?_)
   obtain⟨o23,p23,k23⟩:=bs h21
   refine zo (λ a w=>∃ M1 q23_0,Sx (Frm.of w0) 59 M M1 [oneB q23_0] [(8,dptr v13),(9,dt s18.2)] [(7,0,dtip q23_0 9 o23)] a w) ?_ ?_
   ·
    refine wp_block ?_
    obtain⟨v24,p24,h25⟩:=bs p23
    refine st20.sqB (sc rfl (oM rfl (tp rfl))<|sc rfl (xNcP rfl (tp rfl))<|sc rfl (zh Runner.fld3 rfl kF83_3 (tp rfl))<|sc rfl (ze rfl kT66 (tp rfl))<|sc rfl (oM rfl (tp rfl))<|sc rfl (xIdx rfl kS66 (tp rfl) (tp rfl) p24)<|sc rfl (zh GEvent.fld0 rfl kF85_0 (tp rfl))<|sc rfl (ze rfl kT3 (tp rfl))<|sc rfl (oCI rfl (tp rfl) cI)<|.nil) [8,9,46] [(7,0)] (λ _ _ st26=>?_)
    refine st26.cs rfl h25 (λ _ h27=>?_) (λ _ h28=>?_)
    ·
     refine wp_region_list ?_
     obtain⟨v29,p29,h30⟩:=bs h27
     refine st26.segB 10 (sc rfl (oM rfl (tp rfl))<|sc rfl (oM rfl (tp rfl))<|sc rfl (xNcP rfl (tp rfl))<|sc rfl (zh Runner.fld3 rfl kF83_3 (tp rfl))<|sc rfl (ze rfl kT66 (tp rfl))<|sc rfl (oM rfl (tp rfl))<|sc rfl (xIdx rfl kS66 (tp rfl) (tp rfl) p29)<|sc rfl (zh GEvent.fld1 rfl kF85_1 (tp rfl))<|sc rfl (ze rfl kT9 (tp rfl))<|sc rfl (yc (opds:=[.tmp 55]) rfl kS39 kY39 rfl rfl (by decide) (.cons (tp rfl) .nil))<|.nil) [8,9,56] [(7,0),(47,0)] (λ _ _ st31=>?_)
     obtain⟨v34,p34,h35⟩:=bs h30
     refine st31.app 0 rfl rfl kE39 rfl rfl rfl wA p34 [8,9] rfl [] rfl rfl (λ g33 M33 _ _ st33=>?_)
     refine st33.segA 1 [8,9] [(7,0)] (λ _ _ st36=>?_)
     refine wpList_nil (zi (za ?_))
     obtain rfl:=Option.some.inj h35
     exact⟨_,_,st36.sel [8,9] rfl [(7,0)] rfl iT⟩
    refine wp_skip (zi (za ?_))
    obtain rfl:=Option.some.inj h28
    exact⟨_,_,st26.sel [8,9] rfl [(7,0)] rfl iT⟩
   rintro a23 w23 ⟨M23,q23_0,st23⟩
   have h37:=k23
   obtain⟨v38,p38,h39⟩:=bs h37
   refine st23.rgA [8,9] [(7,0)] (λ _ _ st40=>?_)
   refine za ?_
   exact⟨_,(Option.some.inj h39).symm,⟨_,_,st40.sel [8,9] rfl [(7,0)] rfl iT⟩⟩
  refine wp_exit (zn (zn (zG ?_)))
  refine za ?_
  have h41:=lo h22 hx18
  obtain rfl:=Option.some.inj h41
  exact⟨_,_,st20.sel [] rfl [(7,0)] rfl iT⟩
 rintro a16 w16 ⟨M16,q16_0,st16⟩
 have h42:=k16
 refine st16.sqA [] [(6,0)] (λ _ _ st43=>?_)
 refine wp_ret ?_
 exact st43.ret_own 0 rfl rfl iI h42
end Go.Proofs.YtiiiokblnnlapaaGreatDoor
