import Derived.Test.YtiiiokblnnlapaaGreatDoorRB
import Derived.Test.YtiiiokblnnlapaaGreatDoorRK
import Derived.Test.YtiiiokblnnlapaaGreatDoorRQ
import Derived.Test.YtiiiokblnnlapaaGreatDoorRP
namespace Go.Proofs.YtiiiokblnnlapaaGreatDoor
open Go.RowKit
attribute [local irreducible] OpRel OpdR
set_option maxRecDepth 10000
set_option maxHeartbeats 1600000
theorem kT24:tyB Tryz.prog 24 true 1=true:=by kernel_rfl
theorem kN17:fnB Tryz.prog 17=true:=by kernel_rfl
theorem kN18:fnB Tryz.prog 18=true:=by kernel_rfl
theorem kN46:fnB Tryz.prog 46=true:=by kernel_rfl
theorem kN29:fnB Tryz.prog 29=true:=by kernel_rfl
theorem kN40:fnB Tryz.prog 40=true:=by kernel_rfl
theorem kN20:fnB Tryz.prog 20=true:=by kernel_rfl
theorem kN21:fnB Tryz.prog 21=true:=by kernel_rfl
theorem kN41:fnB Tryz.prog 41=true:=by kernel_rfl
theorem kN42:fnB Tryz.prog 42=true:=by kernel_rfl
theorem kN43:fnB Tryz.prog 43=true:=by kernel_rfl
theorem kN44:fnB Tryz.prog 44=true:=by kernel_rfl
def wX(R:Rec)(x0:Tree)(x1:List Int)(x2:Str):Option Bool:=
if(cmpI .gtr (x1.length:Int) (1048576:Int))=true then(some true)
else(if(cmpI .gtr (x2.l.length:Int) (1048576:Int))=true then(some true)
else((jq x0 (1048576:Int)).bind λ v11=>
if(cmpI .lss v11 (0:Int))=true then(some true)
else((yb x0).bind λ v18=>
(zR x1).bind λ v19=>
(jz R v18 v19 x2).bind λ v20=>
(yb x0).bind λ v27=>
(zR x1).bind λ v36=>
(wD R v27 v36 x2).bind λ v44=>
(gO (cmpI .neq v44.1 v20.1 == false) (zV v44.2 v20.2)).bind λ v53=>
if(cmpI .neq v44.1 v20.1||(!v53))=true then(some false)
else((yb x0).bind λ v60=>
(xf v27 v60).bind λ v61=>
if(!v61)=true then(some false)
else((zR x1).bind λ v69=>
(xg v36 v69).bind λ v70=>
if(!v70)=true then(some false)
else((ww v27 (1:Int)).bind λ v81=>
(wx v36 v81.2).bind λ v87=>
(gO ((cmpI .lss v87.2 (0:Int)||cmpI .neq v44.1 v20.1) == false) (zV v44.2 v20.2)).bind λ v91=>
if((cmpI .lss v87.2 (0:Int)||cmpI .neq v44.1 v20.1)||(!v91))=true then(some false)
else((yR v44.2 (1:Int)).bind λ v100=>
(zZ v100.1 (1:Int)).bind λ v105=>
if(cmpI .lss v105 (0:Int))=true then(some false)
else(if(cmpI .neq v105 v100.2)=true then(some false)
else((yb x0).bind λ v116=>
(zR x1).bind λ v117=>
(wD R v116 v117 x2).bind λ v118=>
(gO (cmpI .neq v118.1 v20.1 == false) (zV v118.2 v20.2)).bind λ v123=>
if(cmpI .neq v118.1 v20.1||(!v123))=true then(some false)
else((zZ v100.1 (1:Int)).bind λ v130=>
if(cmpI .lss v130 (0:Int))=true then(some false)
else(if(cmpI .neq v130 v100.2)=true then(some false)
else(some true))))))))))))
theorem Wy{R:Rec}(hR:R.ok){x0:Tree}{x1:List Int}{x2:Str}{r:Bool}(h:wX R x0 x1 x2=some r):Fn Tryz.prog 8 [dt x0,dt x1,dt x2] (dt r):=by
 unfold wX at h
 refine fnx (fn:=Tryz.f8) 5 Tryz.func8 rfl (oD rfl) rfl (λ M _ _ st0=>?_)
 refine st0.sq1 [1,2,3] (λ _ _ st1=>?_)
 refine wp_seq ?_
 refine st1.sq1 [1,2,3,21] (λ _ _ st2=>?_)
 refine st2.cs rfl h (λ _ h3=>?_) (λ _ h4=>?_)
 ·
  refine st2.sq1 [6] (λ _ _ st5=>?_)
  refine wp_ret (zd ?_)
  exact st5.ret rfl rfl h3
 refine wp_skip (za (wp_seq ?_))
 refine st2.sq1 [1,2,3,24] (λ _ _ st6=>?_)
 refine st6.cs rfl h4 (λ _ h7=>?_) (λ _ h8=>?_)
 ·
  refine st6.sq1 [6] (λ _ _ st9=>?_)
  refine wp_ret (zd ?_)
  exact st9.ret rfl rfl h7
 refine wp_skip (za ?_)
 refine st6.sq1 [1,2,3,7] (λ _ _ st10=>?_)
 obtain⟨v11,p11,h12⟩:=bsW h8 YQ
 refine st10.sq1 [1,2,3,7] (λ _ _ st13=>?_)
 refine wp_seq ?_
 refine st13.sq1 [1,2,3,29] (λ _ _ st14=>?_)
 refine st14.cs rfl h12 (λ _ h15=>?_) (λ _ h16=>?_)
 ·
  refine st14.sq1 [6] (λ _ _ st17=>?_)
  refine wp_ret (zd ?_)
  exact st17.ret rfl rfl h15
 refine wp_skip (za ?_)
 obtain⟨v18,p18,h21⟩:=bs h16
 obtain⟨v19,p19,h22⟩:=bs h21
 obtain⟨v20,p20,h23⟩:=bs h22
 refine st14.sq2 (sc rfl (ze rfl kT24 (tp rfl))<|sc rfl (zj (l:=[.tmp 31]) rfl kN17 (.cons (tp rfl) .nil) (FnN.fn<|yy p18))<|sc rfl (oM rfl (tp rfl))<|sc rfl (zj (l:=[.tmp 33]) rfl kN18 (.cons (tp rfl) .nil) ((yx p19)).fn)<|sc rfl (oM rfl (tp rfl))<|sc rfl (zj (l:=[.tmp 32,.tmp 34,.tmp 35]) rfl kN46 (.cons (tp rfl) (.cons (tp rfl) (.cons (tp rfl) .nil))) (zaH hR p20))<|sc rfl (oM rfl (tp rfl))<|sc rfl (xExt (i:=0) rfl (tp rfl) rfl)<|sc rfl (xExt (i:=1) rfl (tp rfl) rfl)<|sc rfl (oA rfl (tp rfl))<|sc rfl (oA rfl (tp rfl))<|.nil) [1,2,3,8,9] (λ _ _ st24=>?_)
 refine wp_seq (wp_region_list ?_)
 refine st24.segA 1 [1,2,3,8,9,39] [] (λ _ _ st25=>?_)
 obtain⟨v27,p27,h28⟩:=bs h23
 refine st25.cN (l:=[.tmp 39]) 0 rfl rfl kN17 (.cons (tp rfl) .nil) (yy p27) (by simp) [1,2,3,8,9] rfl [] rfl rfl (λ G26 M26 _ _ st26=>?_)
 have st29:=st26.gs (Gs':=[G26,oneB none,oneB none,oneB none,oneB none]) rfl
 refine st29.alcW (ow:=(owTree (Ow.row 94 (owFile (Ow.row 173 (Ow.frz (α:=Stmt))))))) 4 rfl rfl kZ30 (owTree.z Ow.row_z) (by simp) [1,2,3,8,9] rfl [40] rfl rfl (λ b30 M30 _ _ st30=>?_)
 have st31:=st30.gs (Gs':=[G26,oneB none,oneB none,oneB none,(oneB (some b30))]) rfl
 refine st31.stO (sb:=10) (tv:=40) 4 0 (PV.root.box rfl) rfl rfl rfl kT30 (by simp) (by simp) (by decide) (zm rfl) rfl rfl rfl iI iI [1,2,3,8,9] rfl [] rfl rfl rfl (λ G32 _ st32=>?_)
 have st33:=st32.gs (Gs':=[oneB none,oneB none,oneB none,oneB none,G32]) rfl
 refine wpList_nil (za (wp_seq (wp_region_list ?_)))
 refine st33.segA 1 [1,2,3,8,9,41] [(10,4)] (λ _ _ st34=>?_)
 obtain⟨v36,p36,h37⟩:=bs h28
 refine st34.cN (l:=[.tmp 41]) 2 rfl rfl kN18 (.cons (tp rfl) .nil) (yx p36).n (by simp) [1,2,3,8,9] rfl [10] rfl rfl (λ G35 M35 _ _ st35=>?_)
 have st38:=st35.gs (Gs':=[oneB none,oneB none,G35,oneB none,G32]) rfl
 refine st38.nmR (s:=42) 2 rfl rfl iI [10] rfl (λ g39 A39 _ hA39 st39=>?_)
 refine st39.segA 1 [1,2,3,8,9] [(10,4),(11,2)] (λ _ _ st40=>?_)
 refine wpList_nil (za (wp_seq (wp_region_list ?_)))
 refine st40.hdW (s:=10) 4 true (λ _=>(PV.root.box rfl)) rfl rfl iI [11] rfl (λ cs41 hS41 st41=>?_)
 refine st41.segB 3 (sc rfl (xLw (sb:=10) (.head _) rfl (hS41 rfl) rfl kT30 (zm rfl) rfl)<|sc rfl (oM rfl (tp rfl))<|sc rfl (oM rfl (tp rfl))<|.nil) [1,2,3,8,9,44,46] [(10,4),(11,2),(45,2)] (λ _ _ st42=>?_)
 obtain⟨v44,p44,h45⟩:=bs h37
 refine st42.cNrb (l:=[.tmp 44,.tmp 45,.tmp 46]) 1 rfl rfl kN29 st42.ob.sub (.cons (Wj (sb:=10) st42.ob 4 (PV.root.box rfl) (.head _) rfl (qv rfl (hS41 rfl)) (tp rfl) rfl iI) (.cons (qP st42.ob 2 iI (tp rfl)) (.cons (z7 st42.ob.sub (tp rfl)) .nil))) (Wp hR p44) zQ (Q0 full_str) (by simp) [1,2,3,8,9] rfl [10,11] rfl rfl (λ G43 M43 _ _ st43=>?_)
 have st46:=st43.gs (Gs':=[oneB none,G43,G35,oneB none,G32]) rfl
 refine st46.mvD (s:=47) 1 rfl rfl rfl rfl iI rfl [10,11] rfl (λ _ st47=>?_)
 refine st47.segB 1 (sc rfl (xT20 rfl rfl rfl)<|.nil) [1,2,3,8,9,48] [(10,4),(11,2),(43,1)] (λ _ _ st48=>?_)
 refine st48.ex2 (s:=43) 1 rfl rfl rfl rfl iI rfl [10,11] rfl (λ _ st49=>?_)
 refine st49.nmR (s:=49) 1 rfl rfl iI [10,11] rfl (λ g50 A50 _ hA50 st50=>?_)
 refine st50.segA 2 [1,2,3,8,9,12] [(10,4),(11,2),(13,1)] (λ _ _ st51=>?_)
 refine wpList_nil ?_
 have st52:=st51.ncf (s:=10) 4 rfl rfl iI [11,13] rfl
 refine za (wp_seq ?_)
 obtain⟨v53,p53,h54⟩:=bs h45
 refine st52.sqB (sc rfl (oM rfl (tp rfl))<|sc rfl (oM rfl (tp rfl))<|sc rfl (oCI rfl (tp rfl) (tp rfl))<|sc rfl (oM rfl (tp rfl))<|sg rfl rfl (λ hg=>oM rfl (tp rfl))<|sg rfl rfl (λ hg=>oM rfl (tp rfl))<|sg rfl rfl (λ hg=>zS (l:=[.tmp 54,.tmp 55]) st52.ob.sub rfl kN40 (.cons (qP st52.ob 1 iI (zf hg rfl)) (.cons (z7 st52.ob.sub (zf hg rfl)) .nil)) (xn (gh hg p53)) yH)<|sg rfl rfl (λ hg=>zT rfl (zf hg rfl))<|sc rfl (y9 rfl (tp rfl) (zb rfl))<|.nil) [1,2,3,8,9,12,58] [(10,4),(11,2),(13,1)] (λ _ _ st55=>?_)
 refine st55.cs rfl h54 (λ _ h56=>?_) (λ _ h57=>?_)
 ·
  refine st55.sq1 [6] (λ _ _ st58=>?_)
  refine wp_ret (zd ?_)
  exact st58.ret rfl rfl h56
 refine wp_skip (za (wp_seq (wp_seq ?_)))
 obtain⟨v60,p60,h62⟩:=bs h57
 obtain⟨v61,p61,h63⟩:=bs h62
 refine st55.hdW (s:=10) 4 true (λ _=>(PV.root.box rfl)) rfl rfl iI [11,13] rfl (λ cs59 hS59 st59=>?_)
 refine st59.dr (D:=[_,_,_,_,_]) zE [[],[],[1],[0,1,2],[0,1,2,3]] [[(10,none)],[(3,none)],[(60,some 1)],[(59,some 0),(61,some 2),(10,none)],[(62,some 3)]] (by decide +kernel) (
  rc rfl rfl (xLw (sb:=10) (.head _) rfl (hS59 rfl) rfl kT30 (zm rfl) rfl)<|rc rfl rfl (ze rfl kT24 (tp rfl))<|rc rfl rfl (zj (l:=[.tmp 60]) rfl kN17 (.cons (tp rfl) .nil) (FnN.fn<|yy p60))<|rc rfl rfl (zS (l:=[.tmp 59,.tmp 61]) st59.ob.sub rfl kN20 (.cons (Wj (sb:=10) st59.ob 4 (PV.root.box rfl) (.head _) rfl (qv rfl (hS59 rfl)) (tp rfl) rfl iI) (.cons (z7 st59.ob.sub (tp rfl)) .nil)) (YR p61) yH)<|rc rfl rfl (zT rfl (tp rfl))<|.nil) [1,2,3,8,9,12,63] rfl [(10,4),(11,2),(13,1)] rfl ⟨iI,⟨iI,iT⟩⟩ (λ _ _ st64=>?_)
 have st65:=st64.ncf (s:=10) 4 rfl rfl iI [11,13] rfl
 refine za ?_
 refine st65.cs rfl h63 (λ _ h66=>?_) (λ _ h67=>?_)
 ·
  refine st65.sq1 [6] (λ _ _ st68=>?_)
  refine wp_ret (zd ?_)
  exact st68.ret rfl rfl h66
 refine wp_skip (za (wp_seq ?_))
 obtain⟨v69,p69,h71⟩:=bs h67
 obtain⟨v70,p70,h72⟩:=bs h71
 refine st65.sqB (sc rfl (oM rfl (tp rfl))<|sc rfl (oM rfl (tp rfl))<|sc rfl (zj (l:=[.tmp 65]) rfl kN18 (.cons (tp rfl) .nil) ((yx p69)).fn)<|sc rfl (zS (l:=[.tmp 64,.tmp 66]) st65.ob.sub rfl kN21 (.cons (qP st65.ob 2 iI (tp rfl)) (.cons (z7 st65.ob.sub (tp rfl)) .nil)) (YS p70) yH)<|sc rfl (zT rfl (tp rfl))<|.nil) [1,2,3,8,9,12,68] [(10,4),(11,2),(13,1)] (λ _ _ st73=>?_)
 refine st73.cs rfl h72 (λ _ h74=>?_) (λ _ h75=>?_)
 ·
  refine st73.sq1 [6] (λ _ _ st76=>?_)
  refine wp_ret (zd ?_)
  exact st76.ret rfl rfl h74
 refine wp_skip (za ?_)
 refine st73.sqA [1,2,3,8,9,12,14] [(10,4),(11,2),(13,1)] (λ _ _ st77=>?_)
 refine wp_seq (wp_region_list ?_)
 refine st77.hdW (s:=10) 4 true (λ _=>(PV.root.box rfl)) rfl rfl iI [11,13] rfl (λ cs78 hS78 st78=>?_)
 refine st78.segB 2 (sc rfl (xLw (sb:=10) (.head _) rfl (hS78 rfl) rfl kT30 (zm rfl) rfl)<|sc rfl (oM rfl (tp rfl))<|.nil) [1,2,3,8,9,12,14,69,70] [(10,4),(11,2),(13,1)] (λ _ _ st79=>?_)
 obtain⟨v81,p81,h82⟩:=bs h75
 refine st79.cSF (l:=[.tmp 70]) 4 (st79.bkH (sb:=10) (PV.root.box rfl) (.head _) rfl (qv rfl (hS78 rfl)) rfl iI) rfl rfl kN41 (st79.st.has 69 _ rfl) (by simp) (.cons (tp rfl) .nil) (Z0 p81) [1,2,3,8,9,12,14] rfl [11,13] rfl rfl (by decide) (λ G80 M80 _ _ st80=>?_)
 have st83:=st80.gs (Gs':=[oneB none,G43,G35,oneB none,G80]) rfl
 refine st83.segA 1 [1,2,3,8,9,12,14] [(11,2),(13,1)] (λ _ _ st84=>?_)
 refine wpList_nil (za (wp_seq (wp_region_list ?_)))
 refine st84.segA 2 [1,2,3,8,9,12,14,73] [(13,1),(72,2)] (λ _ _ st85=>?_)
 obtain⟨v87,p87,h88⟩:=bs h82
 refine st85.cSF (l:=[.tmp 73]) 2 (st85.bkN (s:=72) rfl iI) rfl rfl kN42 rfl (by simp) (.cons (tp rfl) .nil) (Z1 p87) [1,2,3,8,9,12,14] rfl [13] rfl rfl (by decide) (λ G86 M86 _ _ st86=>?_)
 have st89:=st86.gs (Gs':=[oneB none,G43,G86,oneB none,G80]) rfl
 refine st89.segA 1 [1,2,3,8,9,12,14] [(13,1)] (λ _ _ st90=>?_)
 refine wpList_nil (za (wp_seq ?_))
 obtain⟨v91,p91,h92⟩:=bs h88
 refine st90.sqB (sc rfl (oM rfl (tp rfl))<|sc rfl (oCI rfl (tp rfl) cI)<|sc rfl (oM rfl (tp rfl))<|sg rfl rfl (λ hg=>oM rfl (tp rfl))<|sg rfl rfl (λ hg=>oM rfl (tp rfl))<|sg rfl rfl (λ hg=>oCI rfl (zf hg rfl) (zf hg rfl))<|sc rfl (y9 rfl (tp rfl) (zb rfl))<|sc rfl (oM rfl (tp rfl))<|sg rfl rfl (λ hg=>oM rfl (tp rfl))<|sg rfl rfl (λ hg=>oM rfl (tp rfl))<|sg rfl rfl (λ hg=>zS (l:=[.tmp 83,.tmp 84]) st90.ob.sub rfl kN40 (.cons (qP st90.ob 1 iI (zf hg rfl)) (.cons (z7 st90.ob.sub (zf hg rfl)) .nil)) (xn (gh hg p91)) yH)<|sg rfl rfl (λ hg=>zT rfl (zf hg rfl))<|sc rfl (y9 rfl (tp rfl) (zb rfl))<|.nil) [1,2,3,8,9,87] [(13,1)] (λ _ _ st93=>?_)
 refine st93.cs rfl h92 (λ _ h94=>?_) (λ _ h95=>?_)
 ·
  refine st93.sq1 [6] (λ _ _ st96=>?_)
  refine wp_ret (zd ?_)
  exact st96.ret rfl rfl h94
 refine wp_skip (za ?_)
 refine st93.sqA [1,2,3,8,9,15] [(13,1)] (λ _ _ st97=>?_)
 refine wp_seq (wp_region_list ?_)
 refine st97.segA 2 [1,2,3,8,9,15,89] [(13,1),(88,1)] (λ _ _ st98=>?_)
 obtain⟨v100,p100,h101⟩:=bs h95
 refine st98.cSF (l:=[.tmp 89]) 1 (st98.bkN (s:=13) rfl iI) rfl rfl kN43 ((st98.st.has 88 _ rfl).1.trans (st98.st.has 13 _ rfl).1.symm) (by simp) (.cons (tp rfl) .nil) (Z6 p100) [1,2,3,8,9,15] rfl [] rfl rfl (by decide) (λ G99 M99 _ _ st99=>?_)
 have st102:=st99.gs (Gs':=[oneB none,G99,G86,oneB none,G80]) rfl
 refine st102.segA 1 [1,2,3,8,9,15] [(13,1)] (λ _ _ st103=>?_)
 refine wpList_nil (za ?_)
 refine st103.sqA [1,2,3,8,9,15,16] [(13,1)] (λ _ _ st104=>?_)
 obtain⟨v105,p105,h106⟩:=bs h101
 refine st104.sqB (sc rfl (oM rfl (tp rfl))<|sc rfl (oM rfl (tp rfl))<|sc rfl (zS (l:=[.tmp 91,.tmp 92]) st104.ob.sub rfl kN44 (.cons (qP st104.ob 1 iI (tp rfl)) (.cons (z7 st104.ob.sub (tp rfl)) .nil)) (wG p105) zQ)<|sc rfl (oA rfl (tp rfl))<|.nil) [1,2,3,8,9,15,16] [(13,1)] (λ _ _ st107=>?_)
 refine wp_seq ?_
 refine st107.sqA [1,2,3,8,9,15,16,95] [(13,1)] (λ _ _ st108=>?_)
 refine st108.cs rfl h106 (λ _ h109=>?_) (λ _ h110=>?_)
 ·
  refine st108.sq1 [6] (λ _ _ st111=>?_)
  refine wp_ret (zd ?_)
  exact st111.ret rfl rfl h109
 refine wp_skip (za (wp_seq ?_))
 refine st108.sqA [1,2,3,8,9,15,98] [(13,1)] (λ _ _ st112=>?_)
 refine st112.cs rfl h110 (λ _ h113=>?_) (λ _ h114=>?_)
 ·
  refine st112.sq1 [6] (λ _ _ st115=>?_)
  refine wp_ret (zd ?_)
  exact st115.ret rfl rfl h113
 refine wp_skip (za ?_)
 obtain⟨v116,p116,h119⟩:=bs h114
 obtain⟨v117,p117,h120⟩:=bs h119
 obtain⟨v118,p118,h121⟩:=bs h120
 refine st112.sqB (sc rfl (ze rfl kT24 (tp rfl))<|sc rfl (zj (l:=[.tmp 100]) rfl kN17 (.cons (tp rfl) .nil) (FnN.fn<|yy p116))<|sc rfl (oM rfl (tp rfl))<|sc rfl (zj (l:=[.tmp 102]) rfl kN18 (.cons (tp rfl) .nil) ((yx p117)).fn)<|sc rfl (oM rfl (tp rfl))<|sc rfl (zj (l:=[.tmp 101,.tmp 103,.tmp 104]) rfl kN29 (.cons (tp rfl) (.cons (tp rfl) (.cons (tp rfl) .nil))) (FnN.fn2<|Wp hR p118))<|sc rfl (oM rfl (tp rfl))<|sc rfl (xExt (i:=0) rfl (tp rfl) rfl)<|sc rfl (xExt (i:=1) rfl (tp rfl) rfl)<|sc rfl (oA rfl (tp rfl))<|sc rfl (oA rfl (tp rfl))<|.nil) [8,9,15,17,18] [(13,1)] (λ _ _ st122=>?_)
 refine wp_seq ?_
 obtain⟨v123,p123,h124⟩:=bs h121
 refine st122.sqB (sc rfl (oM rfl (tp rfl))<|sc rfl (oM rfl (tp rfl))<|sc rfl (oCI rfl (tp rfl) (tp rfl))<|sc rfl (oM rfl (tp rfl))<|sg rfl rfl (λ hg=>oM rfl (tp rfl))<|sg rfl rfl (λ hg=>oM rfl (tp rfl))<|sg rfl rfl (λ hg=>zj (l:=[.tmp 112,.tmp 113]) rfl kN40 (.cons (zf hg rfl) (.cons (zf hg rfl) .nil)) (xn (gh hg p123)))<|sg rfl rfl (λ hg=>zT rfl (zf hg rfl))<|sc rfl (y9 rfl (tp rfl) (zb rfl))<|.nil) [15,116] [(13,1)] (λ _ _ st125=>?_)
 refine st125.cs rfl h124 (λ _ h126=>?_) (λ _ h127=>?_)
 ·
  refine st125.sq1 [6] (λ _ _ st128=>?_)
  refine wp_ret (zd ?_)
  exact st128.ret rfl rfl h126
 refine wp_skip (za ?_)
 refine st125.sqA [15,16] [(13,1)] (λ _ _ st129=>?_)
 obtain⟨v130,p130,h131⟩:=bs h127
 refine st129.sq2 (sc rfl (oM rfl (tp rfl))<|sc rfl (oM rfl (tp rfl))<|sc rfl (zS (l:=[.tmp 117,.tmp 118]) st129.ob.sub rfl kN44 (.cons (qP st129.ob 1 iI (tp rfl)) (.cons (z7 st129.ob.sub (tp rfl)) .nil)) (wG p130) zQ)<|sc rfl (oA rfl (tp rfl))<|.nil) [15,16] (λ _ _ st132=>?_)
 refine wp_seq ?_
 refine st132.sq1 [15,16,121] (λ _ _ st133=>?_)
 refine st133.cs rfl h131 (λ _ h134=>?_) (λ _ h135=>?_)
 ·
  refine st133.sq1 [6] (λ _ _ st136=>?_)
  refine wp_ret (zd ?_)
  exact st136.ret rfl rfl h134
 refine wp_skip (za (wp_seq ?_))
 refine st133.sq1 [124] (λ _ _ st137=>?_)
 refine st137.cs rfl h135 (λ _ h138=>?_) (λ _ h139=>?_)
 ·
  refine st137.sq1 [6] (λ _ _ st140=>?_)
  refine wp_ret (zd ?_)
  exact st140.ret rfl rfl h138
 refine wp_skip (za ?_)
 refine st137.sq1 [6] (λ _ _ st141=>?_)
 refine wp_ret ?_
 exact st141.ret rfl rfl h139
open Go.RowKit
theorem law_ImportOne{t:Tree}{p:List Int}{s:Str}(ht:Okd t):wX (scc yB) t p s=some true:=by
 unfold wX
 cases hp:cmpI .gtr (p.length:Int) 1048576 with
 | true=>rw[if_pos rfl]
 |
  false=>
  have hp':p.length<=1048576:=by have:=of_decide_eq_false hp;omega
  rw[if_neg (by decide)]
  cases hq:cmpI .gtr (s.l.length:Int) 1048576 with
  | true=>rw[if_pos rfl]
  |
   false=>
   have hq':s.l.length<=1048576:=by have:=of_decide_eq_false hq;omega
   have hsh:sho s:=by unfold sho;omega
   rw[if_neg (by decide),JM ht (by omega) (by omega),obS]
   cases hs:cmpI .lss (szR (xx t) 1048576) 0 with
   | true=>rw[if_pos rfl]
   |
    false=>
    have hs':¬ szR (xx t) 1048576<0:=of_decide_eq_false hs
    obtain⟨h1,_⟩:=zaN (t:=xx t) (left:=1048576) (by omega)
    have h2:xx t<=1048576:=by omega
    have hsm:=sm_tree h2
    have e1:=JQ h2
    have e2:zR p=some p:=JR (by unfold JO;exact hp')
    have e3:jz (scc yB) t p s=some (endV t p s,W5 t p s):=zap hsm hp' hsh
    have e4:wD (scc yB) t p s=some (endV t p s,W5 t p s):=ImportOne_eq hsm hp' hsh
    have e6:xf t t=some true:=by rw[JN (by omega)];simp
    have e7:xg p p=some true:=by rw[JP (by omega)];simp
    have hl:(W5 t p s).length<=1125899906842624:=Nat.le_trans (cachV_len hp') (by decide)
    have e5:zV (W5 t p s) (W5 t p s)=some true:=by rw[Yx (by omega)];simp
    obtain⟨y1,k1,m1,a1,b1⟩:=XY (x:=t) (k:=1) h2 (by omega) (by omega)
    obtain⟨y2,k2,m2,a2,b2⟩:=XZ (x:=p) (k:=k1) (by omega) (by omega) (by omega)
    have hk:cmpI .lss k2 0=false:=by simp[cmpI];omega
    have n0:cmpI .neq (endV t p s) (endV t p s)=false:=by simp[cmpI]
    rw[if_neg (by decide),e1,obS,e2,obS,e3,obS,obS,obS,e4,obS]
    simp only
    rw[n0,show((false == false):Bool)=true from rfl,qj,e5,obS,if_neg (by decide),obS,e6,obS,if_neg (by decide),obS,e7,obS,if_neg (by decide),m1,obS]
    simp only
    rw[m2,obS]
    simp only
    rw[hk,show(((false||false) == false):Bool)=true from rfl,qj,obS,if_neg (by decide)]
    exact tail_pair hl e4
theorem W7(t:Tree)(p:List Int)(s:Str):Fn Tryz.prog 8 [dt t,dt p,dt s] (dt true):=.okd (x:=t) (by simp) λ ht=>Wy (YJ yB) (law_ImportOne ht)
end Go.Proofs.YtiiiokblnnlapaaGreatDoor
