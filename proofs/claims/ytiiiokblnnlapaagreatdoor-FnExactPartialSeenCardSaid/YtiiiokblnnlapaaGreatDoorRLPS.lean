import Derived.Test.YtiiiokblnnlapaaGreatDoorRB
import Derived.Test.YtiiiokblnnlapaaGreatDoorRK
import Derived.Test.YtiiiokblnnlapaaGreatDoorRQ
import Derived.Test.YtiiiokblnnlapaaGreatDoorRP
namespace Go.Proofs.YtiiiokblnnlapaaGreatDoor
open Go.RowKit
attribute [local irreducible] OpRel OpdR
set_option maxRecDepth 10000
set_option maxHeartbeats 1600000
theorem kT24:tyB Tryz.prog 24 true 1=true:=by kernel_rfl
theorem kN17:fnB Tryz.prog 17=true:=by kernel_rfl
theorem kN18:fnB Tryz.prog 18=true:=by kernel_rfl
theorem kN47:fnB Tryz.prog 47=true:=by kernel_rfl
theorem kN48:fnB Tryz.prog 48=true:=by kernel_rfl
theorem kN40:fnB Tryz.prog 40=true:=by kernel_rfl
theorem kN20:fnB Tryz.prog 20=true:=by kernel_rfl
theorem kN21:fnB Tryz.prog 21=true:=by kernel_rfl
theorem kN41:fnB Tryz.prog 41=true:=by kernel_rfl
theorem kN42:fnB Tryz.prog 42=true:=by kernel_rfl
theorem kN43:fnB Tryz.prog 43=true:=by kernel_rfl
theorem kN44:fnB Tryz.prog 44=true:=by kernel_rfl
def wB(R:Rec)(x0:Tree)(x1:List Int)(x2:Str):Option Bool:=
if(cmpI .gtr (x1.length:Int) (1048576:Int))=true then(some true)
else(if(cmpI .gtr (x2.l.length:Int) (1048576:Int))=true then(some true)
else((jq x0 (1048576:Int)).bind λ v11=>
if(cmpI .lss v11 (0:Int))=true then(some true)
else((yb x0).bind λ v18=>
(zR x1).bind λ v19=>
(wE R v18 v19 x2).bind λ v20=>
(yb x0).bind λ v27=>
(zR x1).bind λ v36=>
(xM R v27 v36 x2).bind λ v44=>
(zV v44 v20).bind λ v50=>
if(!v50)=true then(some false)
else((yb x0).bind λ v57=>
(xf v27 v57).bind λ v58=>
if(!v58)=true then(some false)
else((zR x1).bind λ v66=>
(xg v36 v66).bind λ v67=>
if(!v67)=true then(some false)
else((ww v27 (1:Int)).bind λ v78=>
(wx v36 v78.2).bind λ v84=>
(gO (cmpI .lss v84.2 (0:Int) == false) (zV v44 v20)).bind λ v88=>
if(cmpI .lss v84.2 (0:Int)||(!v88))=true then(some false)
else((yR v44 (1:Int)).bind λ v97=>
(zZ v97.1 (1:Int)).bind λ v102=>
if(cmpI .lss v102 (0:Int))=true then(some false)
else(if(cmpI .neq v102 v97.2)=true then(some false)
else((yb x0).bind λ v113=>
(zR x1).bind λ v114=>
(xM R v113 v114 x2).bind λ v115=>
(zV v115 v20).bind λ v120=>
if(!v120)=true then(some false)
else((zZ v97.1 (1:Int)).bind λ v127=>
if(cmpI .lss v127 (0:Int))=true then(some false)
else(if(cmpI .neq v127 v97.2)=true then(some false)
else(some true))))))))))))
theorem XM{R:Rec}(hR:R.ok){x0:Tree}{x1:List Int}{x2:Str}{r:Bool}(h:wB R x0 x1 x2=some r):Fn Tryz.prog 9 [dt x0,dt x1,dt x2] (dt r):=by
 unfold wB at h
 refine fnx (fn:=Tryz.f9) 4 Tryz.func9 rfl (oD rfl) rfl (λ M _ _ st0=>?_)
 refine st0.sq1 [1,2,3] (λ _ _ st1=>?_)
 refine wp_seq ?_
 refine st1.sq1 [1,2,3,18] (λ _ _ st2=>?_)
 refine st2.cs rfl h (λ _ h3=>?_) (λ _ h4=>?_)
 ·
  refine st2.sq1 [6] (λ _ _ st5=>?_)
  refine wp_ret (zd ?_)
  exact st5.ret rfl rfl h3
 refine wp_skip (za (wp_seq ?_))
 refine st2.sq1 [1,2,3,21] (λ _ _ st6=>?_)
 refine st6.cs rfl h4 (λ _ h7=>?_) (λ _ h8=>?_)
 ·
  refine st6.sq1 [6] (λ _ _ st9=>?_)
  refine wp_ret (zd ?_)
  exact st9.ret rfl rfl h7
 refine wp_skip (za ?_)
 refine st6.sq1 [1,2,3,7] (λ _ _ st10=>?_)
 obtain⟨v11,p11,h12⟩:=bsW h8 YQ
 refine st10.sq1 [1,2,3,7] (λ _ _ st13=>?_)
 refine wp_seq ?_
 refine st13.sq1 [1,2,3,26] (λ _ _ st14=>?_)
 refine st14.cs rfl h12 (λ _ h15=>?_) (λ _ h16=>?_)
 ·
  refine st14.sq1 [6] (λ _ _ st17=>?_)
  refine wp_ret (zd ?_)
  exact st17.ret rfl rfl h15
 refine wp_skip (za ?_)
 obtain⟨v18,p18,h21⟩:=bs h16
 obtain⟨v19,p19,h22⟩:=bs h21
 obtain⟨v20,p20,h23⟩:=bs h22
 refine st14.sq2 (sc rfl (ze rfl kT24 (tp rfl))<|sc rfl (zj (l:=[.tmp 27]) rfl kN17 (.cons (tp rfl) .nil) (FnN.fn<|yy p18))<|sc rfl (oM rfl (tp rfl))<|sc rfl (zj (l:=[.tmp 29]) rfl kN18 (.cons (tp rfl) .nil) ((yx p19)).fn)<|sc rfl (oM rfl (tp rfl))<|sc rfl (zj (l:=[.tmp 28,.tmp 30,.tmp 31]) rfl kN47 (.cons (tp rfl) (.cons (tp rfl) (.cons (tp rfl) .nil))) ((Qz hR p20)).fn)<|sc rfl (oA rfl (tp rfl))<|.nil) [1,2,3,8] (λ _ _ st24=>?_)
 refine wp_seq (wp_region_list ?_)
 refine st24.segA 1 [1,2,3,8,33] [] (λ _ _ st25=>?_)
 obtain⟨v27,p27,h28⟩:=bs h23
 refine st25.cN (l:=[.tmp 33]) 0 rfl rfl kN17 (.cons (tp rfl) .nil) (yy p27) (by simp) [1,2,3,8] rfl [] rfl rfl (λ G26 M26 _ _ st26=>?_)
 have st29:=st26.gs (Gs':=[G26,oneB none,oneB none,oneB none]) rfl
 refine st29.alcW (ow:=(owTree (Ow.row 94 (owFile (Ow.row 173 (Ow.frz (α:=Stmt))))))) 3 rfl rfl kZ30 (owTree.z Ow.row_z) (by simp) [1,2,3,8] rfl [34] rfl rfl (λ b30 M30 _ _ st30=>?_)
 have st31:=st30.gs (Gs':=[G26,oneB none,oneB none,(oneB (some b30))]) rfl
 refine st31.stO (sb:=9) (tv:=34) 3 0 (PV.root.box rfl) rfl rfl rfl kT30 (by simp) (by simp) (by decide) (zm rfl) rfl rfl rfl iI iI [1,2,3,8] rfl [] rfl rfl rfl (λ G32 _ st32=>?_)
 have st33:=st32.gs (Gs':=[oneB none,oneB none,oneB none,G32]) rfl
 refine wpList_nil (za (wp_seq (wp_region_list ?_)))
 refine st33.segA 1 [1,2,3,8,35] [(9,3)] (λ _ _ st34=>?_)
 obtain⟨v36,p36,h37⟩:=bs h28
 refine st34.cN (l:=[.tmp 35]) 1 rfl rfl kN18 (.cons (tp rfl) .nil) (yx p36).n (by simp) [1,2,3,8] rfl [9] rfl rfl (λ G35 M35 _ _ st35=>?_)
 have st38:=st35.gs (Gs':=[oneB none,G35,oneB none,G32]) rfl
 refine st38.nmR (s:=36) 1 rfl rfl iI [9] rfl (λ g39 A39 _ hA39 st39=>?_)
 refine st39.segA 1 [1,2,3,8] [(9,3),(10,1)] (λ _ _ st40=>?_)
 refine wpList_nil (za (wp_seq (wp_region_list ?_)))
 refine st40.hdW (s:=9) 3 true (λ _=>(PV.root.box rfl)) rfl rfl iI [10] rfl (λ cs41 hS41 st41=>?_)
 refine st41.segB 3 (sc rfl (xLw (sb:=9) (.head _) rfl (hS41 rfl) rfl kT30 (zm rfl) rfl)<|sc rfl (oM rfl (tp rfl))<|sc rfl (oM rfl (tp rfl))<|.nil) [1,2,3,8,37,39] [(9,3),(10,1),(38,1)] (λ _ _ st42=>?_)
 obtain⟨v44,p44,h45⟩:=bs h37
 refine st42.cNb (l:=[.tmp 37,.tmp 38,.tmp 39]) 2 rfl rfl kN48 st42.ob.sub (.cons (Wj (sb:=9) st42.ob 3 (PV.root.box rfl) (.head _) rfl (qv rfl (hS41 rfl)) (tp rfl) rfl iI) (.cons (qP st42.ob 1 iI (tp rfl)) (.cons (z7 st42.ob.sub (tp rfl)) .nil))) (XC hR p44).n (Q0 full_str) (by simp) [1,2,3,8] rfl [9,10] rfl rfl (λ G43 M43 _ _ st43=>?_)
 have st46:=st43.gs (Gs':=[oneB none,G35,G43,G32]) rfl
 refine st46.nmR (s:=40) 2 rfl rfl iI [9,10] rfl (λ g47 A47 _ hA47 st47=>?_)
 refine st47.segA 1 [1,2,3,8] [(9,3),(10,1),(11,2)] (λ _ _ st48=>?_)
 refine wpList_nil ?_
 have st49:=st48.ncf (s:=9) 3 rfl rfl iI [10,11] rfl
 refine za (wp_seq ?_)
 obtain⟨v50,p50,h51⟩:=bs h45
 refine st49.sqB (sc rfl (oM rfl (tp rfl))<|sc rfl (oM rfl (tp rfl))<|sc rfl (zS (l:=[.tmp 41,.tmp 42]) st49.ob.sub rfl kN40 (.cons (qP st49.ob 2 iI (tp rfl)) (.cons (z7 st49.ob.sub (tp rfl)) .nil)) (xn p50) yH)<|sc rfl (zT rfl (tp rfl))<|.nil) [1,2,3,8,44] [(9,3),(10,1),(11,2)] (λ _ _ st52=>?_)
 refine st52.cs rfl h51 (λ _ h53=>?_) (λ _ h54=>?_)
 ·
  refine st52.sq1 [6] (λ _ _ st55=>?_)
  refine wp_ret (zd ?_)
  exact st55.ret rfl rfl h53
 refine wp_skip (za (wp_seq (wp_seq ?_)))
 obtain⟨v57,p57,h59⟩:=bs h54
 obtain⟨v58,p58,h60⟩:=bs h59
 refine st52.hdW (s:=9) 3 true (λ _=>(PV.root.box rfl)) rfl rfl iI [10,11] rfl (λ cs56 hS56 st56=>?_)
 refine st56.dr (D:=[_,_,_,_,_]) zE [[],[],[1],[0,1,2],[0,1,2,3]] [[(9,none)],[(3,none)],[(46,some 1)],[(45,some 0),(47,some 2),(9,none)],[(48,some 3)]] (by decide +kernel) (
  rc rfl rfl (xLw (sb:=9) (.head _) rfl (hS56 rfl) rfl kT30 (zm rfl) rfl)<|rc rfl rfl (ze rfl kT24 (tp rfl))<|rc rfl rfl (zj (l:=[.tmp 46]) rfl kN17 (.cons (tp rfl) .nil) (FnN.fn<|yy p57))<|rc rfl rfl (zS (l:=[.tmp 45,.tmp 47]) st56.ob.sub rfl kN20 (.cons (Wj (sb:=9) st56.ob 3 (PV.root.box rfl) (.head _) rfl (qv rfl (hS56 rfl)) (tp rfl) rfl iI) (.cons (z7 st56.ob.sub (tp rfl)) .nil)) (YR p58) yH)<|rc rfl rfl (zT rfl (tp rfl))<|.nil) [1,2,3,8,49] rfl [(9,3),(10,1),(11,2)] rfl ⟨iI,⟨iI,iT⟩⟩ (λ _ _ st61=>?_)
 have st62:=st61.ncf (s:=9) 3 rfl rfl iI [10,11] rfl
 refine za ?_
 refine st62.cs rfl h60 (λ _ h63=>?_) (λ _ h64=>?_)
 ·
  refine st62.sq1 [6] (λ _ _ st65=>?_)
  refine wp_ret (zd ?_)
  exact st65.ret rfl rfl h63
 refine wp_skip (za (wp_seq ?_))
 obtain⟨v66,p66,h68⟩:=bs h64
 obtain⟨v67,p67,h69⟩:=bs h68
 refine st62.sqB (sc rfl (oM rfl (tp rfl))<|sc rfl (oM rfl (tp rfl))<|sc rfl (zj (l:=[.tmp 51]) rfl kN18 (.cons (tp rfl) .nil) ((yx p66)).fn)<|sc rfl (zS (l:=[.tmp 50,.tmp 52]) st62.ob.sub rfl kN21 (.cons (qP st62.ob 1 iI (tp rfl)) (.cons (z7 st62.ob.sub (tp rfl)) .nil)) (YS p67) yH)<|sc rfl (zT rfl (tp rfl))<|.nil) [1,2,3,8,54] [(9,3),(10,1),(11,2)] (λ _ _ st70=>?_)
 refine st70.cs rfl h69 (λ _ h71=>?_) (λ _ h72=>?_)
 ·
  refine st70.sq1 [6] (λ _ _ st73=>?_)
  refine wp_ret (zd ?_)
  exact st73.ret rfl rfl h71
 refine wp_skip (za ?_)
 refine st70.sqA [1,2,3,8,12] [(9,3),(10,1),(11,2)] (λ _ _ st74=>?_)
 refine wp_seq (wp_region_list ?_)
 refine st74.hdW (s:=9) 3 true (λ _=>(PV.root.box rfl)) rfl rfl iI [10,11] rfl (λ cs75 hS75 st75=>?_)
 refine st75.segB 2 (sc rfl (xLw (sb:=9) (.head _) rfl (hS75 rfl) rfl kT30 (zm rfl) rfl)<|sc rfl (oM rfl (tp rfl))<|.nil) [1,2,3,8,12,55,56] [(9,3),(10,1),(11,2)] (λ _ _ st76=>?_)
 obtain⟨v78,p78,h79⟩:=bs h72
 refine st76.cSF (l:=[.tmp 56]) 3 (st76.bkH (sb:=9) (PV.root.box rfl) (.head _) rfl (qv rfl (hS75 rfl)) rfl iI) rfl rfl kN41 (st76.st.has 55 _ rfl) (by simp) (.cons (tp rfl) .nil) (Z0 p78) [1,2,3,8,12] rfl [10,11] rfl rfl (by decide) (λ G77 M77 _ _ st77=>?_)
 have st80:=st77.gs (Gs':=[oneB none,G35,G43,G77]) rfl
 refine st80.segA 1 [1,2,3,8,12] [(10,1),(11,2)] (λ _ _ st81=>?_)
 refine wpList_nil (za (wp_seq (wp_region_list ?_)))
 refine st81.segA 2 [1,2,3,8,12,59] [(11,2),(58,1)] (λ _ _ st82=>?_)
 obtain⟨v84,p84,h85⟩:=bs h79
 refine st82.cSF (l:=[.tmp 59]) 1 (st82.bkN (s:=58) rfl iI) rfl rfl kN42 rfl (by simp) (.cons (tp rfl) .nil) (Z1 p84) [1,2,3,8,12] rfl [11] rfl rfl (by decide) (λ G83 M83 _ _ st83=>?_)
 have st86:=st83.gs (Gs':=[oneB none,G83,G43,G77]) rfl
 refine st86.segA 1 [1,2,3,8,12] [(11,2)] (λ _ _ st87=>?_)
 refine wpList_nil (za (wp_seq ?_))
 obtain⟨v88,p88,h89⟩:=bs h85
 refine st87.sqB (sc rfl (oM rfl (tp rfl))<|sc rfl (oCI rfl (tp rfl) cI)<|sc rfl (oM rfl (tp rfl))<|sg rfl rfl (λ hg=>oM rfl (tp rfl))<|sg rfl rfl (λ hg=>oM rfl (tp rfl))<|sg rfl rfl (λ hg=>zS (l:=[.tmp 64,.tmp 65]) st87.ob.sub rfl kN40 (.cons (qP st87.ob 2 iI (zf hg rfl)) (.cons (z7 st87.ob.sub (zf hg rfl)) .nil)) (xn (gh hg p88)) yH)<|sg rfl rfl (λ hg=>zT rfl (zf hg rfl))<|sc rfl (y9 rfl (tp rfl) (zb rfl))<|.nil) [1,2,3,8,68] [(11,2)] (λ _ _ st90=>?_)
 refine st90.cs rfl h89 (λ _ h91=>?_) (λ _ h92=>?_)
 ·
  refine st90.sq1 [6] (λ _ _ st93=>?_)
  refine wp_ret (zd ?_)
  exact st93.ret rfl rfl h91
 refine wp_skip (za ?_)
 refine st90.sqA [1,2,3,8,13] [(11,2)] (λ _ _ st94=>?_)
 refine wp_seq (wp_region_list ?_)
 refine st94.segA 2 [1,2,3,8,13,70] [(11,2),(69,2)] (λ _ _ st95=>?_)
 obtain⟨v97,p97,h98⟩:=bs h92
 refine st95.cSF (l:=[.tmp 70]) 2 (st95.bkN (s:=11) rfl iI) rfl rfl kN43 ((st95.st.has 69 _ rfl).1.trans (st95.st.has 11 _ rfl).1.symm) (by simp) (.cons (tp rfl) .nil) (Z6 p97) [1,2,3,8,13] rfl [] rfl rfl (by decide) (λ G96 M96 _ _ st96=>?_)
 have st99:=st96.gs (Gs':=[oneB none,G83,G96,G77]) rfl
 refine st99.segA 1 [1,2,3,8,13] [(11,2)] (λ _ _ st100=>?_)
 refine wpList_nil (za ?_)
 refine st100.sqA [1,2,3,8,13,14] [(11,2)] (λ _ _ st101=>?_)
 obtain⟨v102,p102,h103⟩:=bs h98
 refine st101.sqB (sc rfl (oM rfl (tp rfl))<|sc rfl (oM rfl (tp rfl))<|sc rfl (zS (l:=[.tmp 72,.tmp 73]) st101.ob.sub rfl kN44 (.cons (qP st101.ob 2 iI (tp rfl)) (.cons (z7 st101.ob.sub (tp rfl)) .nil)) (wG p102) zQ)<|sc rfl (oA rfl (tp rfl))<|.nil) [1,2,3,8,13,14] [(11,2)] (λ _ _ st104=>?_)
 refine wp_seq ?_
 refine st104.sqA [1,2,3,8,13,14,76] [(11,2)] (λ _ _ st105=>?_)
 refine st105.cs rfl h103 (λ _ h106=>?_) (λ _ h107=>?_)
 ·
  refine st105.sq1 [6] (λ _ _ st108=>?_)
  refine wp_ret (zd ?_)
  exact st108.ret rfl rfl h106
 refine wp_skip (za (wp_seq ?_))
 refine st105.sqA [1,2,3,8,13,79] [(11,2)] (λ _ _ st109=>?_)
 refine st109.cs rfl h107 (λ _ h110=>?_) (λ _ h111=>?_)
 ·
  refine st109.sq1 [6] (λ _ _ st112=>?_)
  refine wp_ret (zd ?_)
  exact st112.ret rfl rfl h110
 refine wp_skip (za ?_)
 obtain⟨v113,p113,h116⟩:=bs h111
 obtain⟨v114,p114,h117⟩:=bs h116
 obtain⟨v115,p115,h118⟩:=bs h117
 refine st109.sqB (sc rfl (ze rfl kT24 (tp rfl))<|sc rfl (zj (l:=[.tmp 80]) rfl kN17 (.cons (tp rfl) .nil) (FnN.fn<|yy p113))<|sc rfl (oM rfl (tp rfl))<|sc rfl (zj (l:=[.tmp 82]) rfl kN18 (.cons (tp rfl) .nil) ((yx p114)).fn)<|sc rfl (oM rfl (tp rfl))<|sc rfl (zj (l:=[.tmp 81,.tmp 83,.tmp 84]) rfl kN48 (.cons (tp rfl) (.cons (tp rfl) (.cons (tp rfl) .nil))) ((XC hR p115)).fn)<|sc rfl (oA rfl (tp rfl))<|.nil) [8,13,15] [(11,2)] (λ _ _ st119=>?_)
 refine wp_seq ?_
 obtain⟨v120,p120,h121⟩:=bsW h118 xn
 refine st119.sqA [13,89] [(11,2)] (λ _ _ st122=>?_)
 refine st122.cs rfl h121 (λ _ h123=>?_) (λ _ h124=>?_)
 ·
  refine st122.sq1 [6] (λ _ _ st125=>?_)
  refine wp_ret (zd ?_)
  exact st125.ret rfl rfl h123
 refine wp_skip (za ?_)
 refine st122.sqA [13,14] [(11,2)] (λ _ _ st126=>?_)
 obtain⟨v127,p127,h128⟩:=bs h124
 refine st126.sq2 (sc rfl (oM rfl (tp rfl))<|sc rfl (oM rfl (tp rfl))<|sc rfl (zS (l:=[.tmp 90,.tmp 91]) st126.ob.sub rfl kN44 (.cons (qP st126.ob 2 iI (tp rfl)) (.cons (z7 st126.ob.sub (tp rfl)) .nil)) (wG p127) zQ)<|sc rfl (oA rfl (tp rfl))<|.nil) [13,14] (λ _ _ st129=>?_)
 refine wp_seq ?_
 refine st129.sq1 [13,14,94] (λ _ _ st130=>?_)
 refine st130.cs rfl h128 (λ _ h131=>?_) (λ _ h132=>?_)
 ·
  refine st130.sq1 [6] (λ _ _ st133=>?_)
  refine wp_ret (zd ?_)
  exact st133.ret rfl rfl h131
 refine wp_skip (za (wp_seq ?_))
 refine st130.sq1 [97] (λ _ _ st134=>?_)
 refine st134.cs rfl h132 (λ _ h135=>?_) (λ _ h136=>?_)
 ·
  refine st134.sq1 [6] (λ _ _ st137=>?_)
  refine wp_ret (zd ?_)
  exact st137.ret rfl rfl h135
 refine wp_skip (za ?_)
 refine st134.sq1 [6] (λ _ _ st138=>?_)
 refine wp_ret ?_
 exact st138.ret rfl rfl h136
open Go.RowKit
theorem zbg{t:Tree}{p:List Int}{s:Str}(ht:Okd t):wB (scc yB) t p s=some true:=by
 unfold wB
 cases hp:cmpI .gtr (p.length:Int) 1048576 with
 | true=>rw[if_pos rfl]
 |
  false=>
  have hp':p.length<=1048576:=by have:=of_decide_eq_false hp;omega
  rw[if_neg (by decide)]
  cases hq:cmpI .gtr (s.l.length:Int) 1048576 with
  | true=>rw[if_pos rfl]
  |
   false=>
   have hq':s.l.length<=1048576:=by have:=of_decide_eq_false hq;omega
   have hsh:sho s:=by unfold sho;omega
   rw[if_neg (by decide),JM ht (by omega) (by omega),obS]
   cases hs:cmpI .lss (szR (xx t) 1048576) 0 with
   | true=>rw[if_pos rfl]
   |
    false=>
    have hs':¬ szR (xx t) 1048576<0:=of_decide_eq_false hs
    obtain⟨h1,_⟩:=zaN (t:=xx t) (left:=1048576) (by omega)
    have h2:xx t<=1048576:=by omega
    have hsm:=sm_tree h2
    have e1:=JQ h2
    have e2:zR p=some p:=JR (by unfold JO;exact hp')
    have e3:wE (scc yB) t p s=some (W4 t p s):=JZ hsm hp' hsh
    have e4:xM (scc yB) t p s=some (W4 t p s):=zbP hsm hp' hsh
    have e6:xf t t=some true:=by rw[JN (by omega)];simp
    have e7:xg p p=some true:=by rw[JP (by omega)];simp
    have hl:(W4 t p s).length<=1125899906842624:=Nat.le_trans (partV_len hp') (by decide)
    have e5:zV (W4 t p s) (W4 t p s)=some true:=by rw[Yx (by omega)];simp
    obtain⟨y1,k1,m1,a1,b1⟩:=XY (x:=t) (k:=1) h2 (by omega) (by omega)
    obtain⟨y2,k2,m2,a2,b2⟩:=XZ (x:=p) (k:=k1) (by omega) (by omega) (by omega)
    have hk:cmpI .lss k2 0=false:=by simp[cmpI];omega
    rw[if_neg (by decide),e1,obS,e2,obS,e3,obS,obS,obS,e4,obS,e5,obS,if_neg (by decide),obS,e6,obS,if_neg (by decide),obS,e7,obS,if_neg (by decide),m1,obS]
    simp only
    rw[m2,obS]
    simp only
    rw[hk,show((false == false):Bool)=true from rfl,qj,obS,if_neg (by decide)]
    exact zbL hl e4
theorem Wx(t:Tree)(p:List Int)(s:Str):Fn Tryz.prog 9 [dt t,dt p,dt s] (dt true):=.okd (x:=t) (by simp) λ ht=>XM (YJ yB) (zbg ht)
end Go.Proofs.YtiiiokblnnlapaaGreatDoor
