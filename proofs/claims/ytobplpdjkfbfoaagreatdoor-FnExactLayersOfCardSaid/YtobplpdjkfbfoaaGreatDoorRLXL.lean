import Derived.Test.YtobplpdjkfbfoaaGreatDoorRKb
import Derived.Test.YtobplpdjkfbfoaaGreatDoorRP
namespace Go.Proofs.YtobplpdjkfbfoaaGreatDoor
open Go.RowKit Tryz
set_option maxRecDepth 10000
set_option maxHeartbeats 1600000
theorem kT41:tyB prog 41 true 1=true:=by kernel_rfl
theorem kN18:fnB prog 18=true:=by kernel_rfl
theorem kN19:fnB prog 19=true:=by kernel_rfl
theorem kN20:fnB prog 20=true:=by kernel_rfl
theorem kN10:fnB prog 10=true:=by kernel_rfl
theorem kN8:fnB prog 8=true:=by kernel_rfl
theorem kN21:fnB prog 21=true:=by kernel_rfl
theorem kN22:fnB prog 22=true:=by kernel_rfl
theorem kN23:fnB prog 23=true:=by kernel_rfl
theorem kN24:fnB prog 24=true:=by kernel_rfl
theorem kN25:fnB prog 25=true:=by kernel_rfl
theorem kN26:fnB prog 26=true:=by kernel_rfl
theorem kN27:fnB prog 27=true:=by kernel_rfl
def wI(x0:Tree)(x1:List Int)(x2:Str):Option Bool:=
if(cmpI .gtr (x1.length:Int) (1048576:Int))=true then(some true)
else(if(cmpI .gtr (x2.l.length:Int) (1048576:Int))=true then(some true)
else((qy x0 (1048576:Int)).bind λ v11=>
if(cmpI .lss v11 (0:Int))=true then(some true)
else((yM x0).bind λ v18=>
(yj x1).bind λ v19=>
(jv v18 v19 x2).bind λ v20=>
(yM x0).bind λ v27=>
(yj x1).bind λ v36=>
(wz v27 v36 x2).bind λ v44=>
(yE v44 v20).bind λ v50=>
if(!v50)=true then(some false)
else((yM x0).bind λ v57=>
(wN v27 v57).bind λ v58=>
if(!v58)=true then(some false)
else((yj x1).bind λ v66=>
(wO v36 v66).bind λ v67=>
if(!v67)=true then(some false)
else((jr v27 (1:Int)).bind λ v78=>
(js v36 v78.2).bind λ v84=>
(gO (cmpI .lss v84.2 (0:Int) == false) (yE v44 v20)).bind λ v88=>
if(cmpI .lss v84.2 (0:Int)||(!v88))=true then(some false)
else((xP v44 (1:Int)).bind λ v97=>
(yz v97.1 (1:Int)).bind λ v102=>
if(cmpI .lss v102 (0:Int))=true then(some false)
else(if(cmpI .neq v102 v97.2)=true then(some false)
else((yM x0).bind λ v113=>
(yj x1).bind λ v114=>
(wz v113 v114 x2).bind λ v115=>
(yE v115 v20).bind λ v120=>
if(!v120)=true then(some false)
else((yz v97.1 (1:Int)).bind λ v127=>
if(cmpI .lss v127 (0:Int))=true then(some false)
else(if(cmpI .neq v127 v97.2)=true then(some false)
else(some true))))))))))))
theorem WA{x0:Tree}{x1:List Int}{x2:Str}{r:Bool}(h:wI x0 x1 x2=some r):Fn prog 4 [dt x0,dt x1,dt x2] (dt r):=by
 unfold wI at h
 refine fnx (fn:=f4) 4 func4 rfl (oD rfl) rfl (λ M w0 a0 st0=>?_)
 refine st0.sq0 (sc rfl (jJ rfl (tp rfl))<|sc rfl (oA rfl cB)<|.nil) [1,2,3] rfl (λ a1 w1 st1=>wp_seq ?_)
 refine st1.sq0 (sc rfl (oM rfl (tp rfl))<|sc rfl (jx rfl kL26 (tp rfl))<|sc rfl (oCI rfl (tp rfl) cI)<|.nil) [1,2,3,18] rfl (λ a2 w2 st2=>?_)
 refine st2.cs (c:=18) rfl h (λ c3 h3=>?_) (λ c4 h4=>?_)
 ·
  refine st2.sq0 (sc rfl (oA rfl cB)<|.nil) [6] rfl (λ a5 w5 st5=>wp_ret (zd ?_))
  exact st5.ret rfl rfl h3
 refine wp_skip (za (wp_seq ?_))
 refine st2.sq0 (sc rfl (oM rfl (tp rfl))<|sc rfl (YN rfl kX9 (tp rfl))<|sc rfl (oCI rfl (tp rfl) cI)<|.nil) [1,2,3,21] rfl (λ a6 w6 st6=>?_)
 refine st6.cs (c:=21) rfl h4 (λ c7 h7=>?_) (λ c8 h8=>?_)
 ·
  refine st6.sq0 (sc rfl (oA rfl cB)<|.nil) [6] rfl (λ a9 w9 st9=>wp_ret (zd ?_))
  exact st9.ret rfl rfl h7
 refine wp_skip (za ?_)
 refine st6.sq0 (sc rfl (oA rfl cI)<|.nil) [1,2,3,7] rfl (λ a10 w10 st10=>?_)
 obtain⟨v11,p11,h12⟩:=bs h8
 refine st10.sq0 (sc rfl (zk rfl kT41 (tp rfl))<|sc rfl (oM rfl (tp rfl))<|sc rfl (zm (l:=[.tmp 22,.tmp 23]) rfl kN18 (.cons (tp rfl) (.cons (tp rfl) .nil)) (JF p11))<|sc rfl (oA rfl (tp rfl))<|.nil) [1,2,3,7] rfl (λ a13 w13 st13=>wp_seq ?_)
 refine st13.sq0 (sc rfl (oM rfl (tp rfl))<|sc rfl (oCI rfl (tp rfl) cI)<|.nil) [1,2,3,26] rfl (λ a14 w14 st14=>?_)
 refine st14.cs (c:=26) rfl h12 (λ c15 h15=>?_) (λ c16 h16=>?_)
 ·
  refine st14.sq0 (sc rfl (oA rfl cB)<|.nil) [6] rfl (λ a17 w17 st17=>wp_ret (zd ?_))
  exact st17.ret rfl rfl h15
 refine wp_skip (za ?_)
 obtain⟨v18,p18,v19,p19,v20,p20,h23⟩:=bsC h16
 refine st14.sq0 (sc rfl (zk rfl kT41 (tp rfl))<|sc rfl (zm (l:=[.tmp 27]) rfl kN19 (.cons (tp rfl) .nil) (FnN.fn<|wM p18))<|sc rfl (oM rfl (tp rfl))<|sc rfl (zm (l:=[.tmp 29]) rfl kN20 (.cons (tp rfl) .nil) ((wL p19)).fn)<|sc rfl (oM rfl (tp rfl))<|sc rfl (zm (l:=[.tmp 28,.tmp 30,.tmp 31]) rfl kN10 (.cons (tp rfl) (.cons (tp rfl) (.cons (tp rfl) .nil))) ((zaY p20)).fn)<|sc rfl (oA rfl (tp rfl))<|.nil) [1,2,3,8] rfl (λ a24 w24 st24=>wp_seq (wp_region_list ?_))
 refine st24.seg 1 (
  sc rfl (zk rfl kT41 (tp rfl))<|.nil) [1,2,3,8,33] rfl [] rfl trivial (λ a25 w25 st25=>?_)
 obtain⟨v27,p27,h28⟩:=bs h23
 refine st25.cN (l:=[.tmp 33]) 0 rfl rfl kN19 (.cons (tp rfl) .nil) (wM p27) (by simp) [1,2,3,8] rfl [] rfl rfl (λ G26 M26 a26 w26 st26=>?_)
 have st29:=st26.gs (Gs':=[G26,oneB none,oneB none,oneB none]) rfl
 refine st29.alcW (ow:=(owTree (Ow.row 86 (owFile (Ow.row 82 (Ow.frz (α:=Stmt))))))) 3 rfl rfl kZ25 (owTree.z Ow.row_z) (by simp) [1,2,3,8] rfl [34] rfl rfl (λ b30 M30 a30 w30 st30=>?_)
 have st31:=st30.gs (Gs':=[G26,oneB none,oneB none,(oneB (some b30))]) rfl
 refine st31.stO (sb:=9) (tv:=34) 3 0 (PV.root.box rfl) rfl rfl rfl kT25 (by simp) (by simp) (by decide) (je rfl) rfl rfl rfl iI iI [1,2,3,8] rfl [] rfl rfl rfl (λ G32 w32 st32=>?_)
 have st33:=st32.gs (Gs':=[oneB none,oneB none,oneB none,G32]) rfl
 refine wpList_nil (za (wp_seq (wp_region_list ?_)))
 refine st33.seg 1 (
  sc rfl (oM rfl (tp rfl))<|.nil) [1,2,3,8,35] rfl [(9,3)] rfl iT (λ a34 w34 st34=>?_)
 obtain⟨v36,p36,h37⟩:=bs h28
 refine st34.cN (l:=[.tmp 35]) 1 rfl rfl kN20 (.cons (tp rfl) .nil) (wL p36).n (by simp) [1,2,3,8] rfl [9] rfl rfl (λ G35 M35 a35 w35 st35=>?_)
 have st38:=st35.gs (Gs':=[oneB none,G35,oneB none,G32]) rfl
 refine st38.nmR (s:=36) 1 rfl rfl iI [9] rfl (λ g39 A39 c39 hA39 st39=>?_)
 refine st39.seg 1 (
  sc rfl (oA rfl (tp rfl))<|.nil) [1,2,3,8] rfl [(9,3),(10,1)] rfl ⟨iI,iT⟩ (λ a40 w40 st40=>?_)
 refine wpList_nil (za (wp_seq (wp_region_list ?_)))
 refine st40.hdW (s:=9) 3 true (λ _=>(PV.root.box rfl)) rfl rfl iI [10] rfl (λ cs41 hS41 st41=>?_)
 refine st41.seg 3 (
  sc rfl (xLw (sb:=9) (.head _) rfl (hS41 rfl) rfl kT25 (je rfl) rfl)<|sc rfl (oM rfl (tp rfl))<|sc rfl (oM rfl (tp rfl))<|.nil) [1,2,3,8,37,39] rfl [(9,3),(10,1),(38,1)] rfl ⟨iI,⟨iI,iT⟩⟩ (λ a42 w42 st42=>?_)
 obtain⟨v44,p44,h45⟩:=bs h37
 refine st42.cNb (l:=[.tmp 37,.tmp 38,.tmp 39]) 2 rfl rfl kN8 st42.ob.sub (.cons (lendP (sb:=9) st42.ob 3 (PV.root.box rfl) (.head _) rfl (X2 rfl (hS41 rfl)) (tp rfl) rfl iI) (.cons (WG st42.ob 1 iI (tp rfl)) (.cons (xw st42.ob.sub (tp rfl)) .nil))) (WK p44) (full_row (full_row full_str)) (by simp) [1,2,3,8] rfl [9,10] rfl rfl (λ G43 M43 a43 w43 st43=>?_)
 have st46:=st43.gs (Gs':=[oneB none,G35,G43,G32]) rfl
 refine st46.nmR (s:=40) 2 rfl rfl iI [9,10] rfl (λ g47 A47 c47 hA47 st47=>?_)
 refine st47.seg 1 (
  sc rfl (oA rfl (tp rfl))<|.nil) [1,2,3,8] rfl [(9,3),(10,1),(11,2)] rfl ⟨iI,⟨iI,iT⟩⟩ (λ a48 w48 st48=>?_)
 refine wpList_nil ?_
 have st49:=st48.ncf (s:=9) 3 rfl rfl iI [10,11] rfl
 refine za (wp_seq ?_)
 obtain⟨v50,p50,h51⟩:=bs h45
 refine st49.sq (sc rfl (oM rfl (tp rfl))<|sc rfl (oM rfl (tp rfl))<|sc rfl (xx (l:=[.tmp 41,.tmp 42]) st49.ob.sub rfl kN21 (.cons (WG st49.ob 2 iI (tp rfl)) (.cons (xw st49.ob.sub (tp rfl)) .nil)) (ZM p50) xF)<|sc rfl (yA rfl (tp rfl))<|.nil) [1,2,3,8,44] rfl [(9,3),(10,1),(11,2)] rfl ⟨iI,⟨iI,iT⟩⟩ (λ a52 w52 st52=>?_)
 refine st52.cs (c:=44) rfl h51 (λ c53 h53=>?_) (λ c54 h54=>?_)
 ·
  refine st52.sq0 (sc rfl (oA rfl cB)<|.nil) [6] rfl (λ a55 w55 st55=>wp_ret (zd ?_))
  exact st55.ret rfl rfl h53
 refine wp_skip (za (wp_seq (wp_seq ?_)))
 obtain⟨v57,p57,v58,p58,h60⟩:=bsB h54
 refine st52.hdW (s:=9) 3 true (λ _=>(PV.root.box rfl)) rfl rfl iI [10,11] rfl (λ cs56 hS56 st56=>?_)
 refine st56.dr (D:=[_,_,_,_,_]) zK [[(9,nS)],[(3,nS)],[(46,1)],[(45,0),(47,2),(9,nS)],[(48,3)]] (by decide +kernel) (
  rc rfl rfl (xLw (sb:=9) (.head _) rfl (hS56 rfl) rfl kT25 (je rfl) rfl)<|rc rfl rfl (zk rfl kT41 (tp rfl))<|rc rfl rfl (zm (l:=[.tmp 46]) rfl kN19 (.cons (tp rfl) .nil) (FnN.fn<|wM p57))<|rc rfl rfl (xx (l:=[.tmp 45,.tmp 47]) st56.ob.sub rfl kN22 (.cons (lendP (sb:=9) st56.ob 3 (PV.root.box rfl) (.head _) rfl (X2 rfl (hS56 rfl)) (tp rfl) rfl iI) (.cons (xw st56.ob.sub (tp rfl)) .nil)) (JG p58) xF)<|rc rfl rfl (yA rfl (tp rfl))<|.nil) [1,2,3,8,49] rfl [(9,3),(10,1),(11,2)] rfl ⟨iI,⟨iI,iT⟩⟩ (λ a61 w61 st61=>?_)
 have st62:=st61.ncf (s:=9) 3 rfl rfl iI [10,11] rfl
 refine za ?_
 refine st62.cs (c:=49) rfl h60 (λ c63 h63=>?_) (λ c64 h64=>?_)
 ·
  refine st62.sq0 (sc rfl (oA rfl cB)<|.nil) [6] rfl (λ a65 w65 st65=>wp_ret (zd ?_))
  exact st65.ret rfl rfl h63
 refine wp_skip (za (wp_seq ?_))
 obtain⟨v66,p66,v67,p67,h69⟩:=bsB h64
 refine st62.sq (sc rfl (oM rfl (tp rfl))<|sc rfl (oM rfl (tp rfl))<|sc rfl (zm (l:=[.tmp 51]) rfl kN20 (.cons (tp rfl) .nil) ((wL p66)).fn)<|sc rfl (xx (l:=[.tmp 50,.tmp 52]) st62.ob.sub rfl kN23 (.cons (WG st62.ob 1 iI (tp rfl)) (.cons (xw st62.ob.sub (tp rfl)) .nil)) (JH p67) xF)<|sc rfl (yA rfl (tp rfl))<|.nil) [1,2,3,8,54] rfl [(9,3),(10,1),(11,2)] rfl ⟨iI,⟨iI,iT⟩⟩ (λ a70 w70 st70=>?_)
 refine st70.cs (c:=54) rfl h69 (λ c71 h71=>?_) (λ c72 h72=>?_)
 ·
  refine st70.sq0 (sc rfl (oA rfl cB)<|.nil) [6] rfl (λ a73 w73 st73=>wp_ret (zd ?_))
  exact st73.ret rfl rfl h71
 refine wp_skip (za ?_)
 refine st70.sq (sc rfl (oA rfl cI)<|.nil) [1,2,3,8,12] rfl [(9,3),(10,1),(11,2)] rfl ⟨iI,⟨iI,iT⟩⟩ (λ a74 w74 st74=>wp_seq (wp_region_list ?_))
 refine st74.hdW (s:=9) 3 true (λ _=>(PV.root.box rfl)) rfl rfl iI [10,11] rfl (λ cs75 hS75 st75=>?_)
 refine st75.seg 2 (
  sc rfl (xLw (sb:=9) (.head _) rfl (hS75 rfl) rfl kT25 (je rfl) rfl)<|sc rfl (oM rfl (tp rfl))<|.nil) [1,2,3,8,12,55,56] rfl [(9,3),(10,1),(11,2)] rfl ⟨iI,⟨iI,iT⟩⟩ (λ a76 w76 st76=>?_)
 obtain⟨v78,p78,h79⟩:=bs h72
 refine st76.cSF (l:=[.tmp 56]) 3 (st76.bkH (sb:=9) (PV.root.box rfl) (.head _) rfl (X2 rfl (hS75 rfl)) rfl iI) rfl rfl kN24 (st76.st.has 55 _ rfl) (by simp) (.cons (tp rfl) .nil) (WI p78) [1,2,3,8,12] rfl [10,11] rfl rfl (by decide) (λ G77 M77 a77 w77 st77=>?_)
 have st80:=st77.gs (Gs':=[oneB none,G35,G43,G77]) rfl
 refine st80.seg 1 (
  sc rfl (oA rfl (tp rfl))<|.nil) [1,2,3,8,12] rfl [(10,1),(11,2)] rfl ⟨iI,iT⟩ (λ a81 w81 st81=>?_)
 refine wpList_nil (za (wp_seq (wp_region_list ?_)))
 refine st81.seg 2 (
  sc rfl (oM rfl (tp rfl))<|sc rfl (oM rfl (tp rfl))<|.nil) [1,2,3,8,12,59] rfl [(11,2),(58,1)] rfl ⟨iI,iT⟩ (λ a82 w82 st82=>?_)
 obtain⟨v84,p84,h85⟩:=bs h79
 refine st82.cSF (l:=[.tmp 59]) 1 (st82.bkN (s:=58) rfl iI) rfl rfl kN25 rfl (by simp) (.cons (tp rfl) .nil) (WJ p84) [1,2,3,8,12] rfl [11] rfl rfl (by decide) (λ G83 M83 a83 w83 st83=>?_)
 have st86:=st83.gs (Gs':=[oneB none,G83,G43,G77]) rfl
 refine st86.seg 1 (
  sc rfl (oA rfl (tp rfl))<|.nil) [1,2,3,8,12] rfl [(11,2)] rfl iT (λ a87 w87 st87=>?_)
 refine wpList_nil (za (wp_seq ?_))
 obtain⟨v88,p88,h89⟩:=bs h85
 refine st87.sq (sc rfl (oM rfl (tp rfl))<|sc rfl (oCI rfl (tp rfl) cI)<|sc rfl (oM rfl (tp rfl))<|sg rfl rfl (λ hg=>oM rfl (tp rfl))<|sg rfl rfl (λ hg=>oM rfl (tp rfl))<|sg rfl rfl (λ hg=>xx (l:=[.tmp 64,.tmp 65]) st87.ob.sub rfl kN21 (.cons (WG st87.ob 2 iI (zn hg rfl)) (.cons (xw st87.ob.sub (zn hg rfl)) .nil)) (ZM (gh hg p88)) xF)<|sg rfl rfl (λ hg=>yA rfl (zn hg rfl))<|sc rfl (wJ rfl (tp rfl) (zb rfl))<|.nil) [1,2,3,8,68] rfl [(11,2)] rfl iT (λ a90 w90 st90=>?_)
 refine st90.cs (c:=68) rfl h89 (λ c91 h91=>?_) (λ c92 h92=>?_)
 ·
  refine st90.sq0 (sc rfl (oA rfl cB)<|.nil) [6] rfl (λ a93 w93 st93=>wp_ret (zd ?_))
  exact st93.ret rfl rfl h91
 refine wp_skip (za ?_)
 refine st90.sq (sc rfl (oA rfl cI)<|.nil) [1,2,3,8,13] rfl [(11,2)] rfl iT (λ a94 w94 st94=>wp_seq (wp_region_list ?_))
 refine st94.seg 2 (
  sc rfl (oM rfl (tp rfl))<|sc rfl (oM rfl (tp rfl))<|.nil) [1,2,3,8,13,70] rfl [(11,2),(69,2)] rfl ⟨iI,iT⟩ (λ a95 w95 st95=>?_)
 obtain⟨v97,p97,h98⟩:=bs h92
 refine st95.cSF (l:=[.tmp 70]) 2 (st95.bkN (s:=11) rfl iI) rfl rfl kN26 ((st95.st.has 69 _ rfl).1.trans (st95.st.has 11 _ rfl).1.symm) (by simp) (.cons (tp rfl) .nil) (Jy p97) [1,2,3,8,13] rfl [] rfl rfl (by decide) (λ G96 M96 a96 w96 st96=>?_)
 have st99:=st96.gs (Gs':=[oneB none,G83,G96,G77]) rfl
 refine st99.seg 1 (
  sc rfl (oA rfl (tp rfl))<|.nil) [1,2,3,8,13] rfl [(11,2)] rfl iT (λ a100 w100 st100=>?_)
 refine wpList_nil (za ?_)
 refine st100.sq (sc rfl (oA rfl cI)<|.nil) [1,2,3,8,13,14] rfl [(11,2)] rfl iT (λ a101 w101 st101=>?_)
 obtain⟨v102,p102,h103⟩:=bs h98
 refine st101.sq (sc rfl (oM rfl (tp rfl))<|sc rfl (oM rfl (tp rfl))<|sc rfl (xx (l:=[.tmp 72,.tmp 73]) st101.ob.sub rfl kN27 (.cons (WG st101.ob 2 iI (tp rfl)) (.cons (xw st101.ob.sub (tp rfl)) .nil)) (YM p102) Za)<|sc rfl (oA rfl (tp rfl))<|.nil) [1,2,3,8,13,14] rfl [(11,2)] rfl iT (λ a104 w104 st104=>wp_seq ?_)
 refine st104.sq (sc rfl (oM rfl (tp rfl))<|sc rfl (oCI rfl (tp rfl) cI)<|.nil) [1,2,3,8,13,14,76] rfl [(11,2)] rfl iT (λ a105 w105 st105=>?_)
 refine st105.cs (c:=76) rfl h103 (λ c106 h106=>?_) (λ c107 h107=>?_)
 ·
  refine st105.sq0 (sc rfl (oA rfl cB)<|.nil) [6] rfl (λ a108 w108 st108=>wp_ret (zd ?_))
  exact st108.ret rfl rfl h106
 refine wp_skip (za (wp_seq ?_))
 refine st105.sq (sc rfl (oM rfl (tp rfl))<|sc rfl (oM rfl (tp rfl))<|sc rfl (oCI rfl (tp rfl) (tp rfl))<|.nil) [1,2,3,8,13,79] rfl [(11,2)] rfl iT (λ a109 w109 st109=>?_)
 refine st109.cs (c:=79) rfl h107 (λ c110 h110=>?_) (λ c111 h111=>?_)
 ·
  refine st109.sq0 (sc rfl (oA rfl cB)<|.nil) [6] rfl (λ a112 w112 st112=>wp_ret (zd ?_))
  exact st112.ret rfl rfl h110
 refine wp_skip (za ?_)
 obtain⟨v113,p113,v114,p114,v115,p115,h118⟩:=bsC h111
 refine st109.sq (sc rfl (zk rfl kT41 (tp rfl))<|sc rfl (zm (l:=[.tmp 80]) rfl kN19 (.cons (tp rfl) .nil) (FnN.fn<|wM p113))<|sc rfl (oM rfl (tp rfl))<|sc rfl (zm (l:=[.tmp 82]) rfl kN20 (.cons (tp rfl) .nil) ((wL p114)).fn)<|sc rfl (oM rfl (tp rfl))<|sc rfl (zm (l:=[.tmp 81,.tmp 83,.tmp 84]) rfl kN8 (.cons (tp rfl) (.cons (tp rfl) (.cons (tp rfl) .nil))) (FnN.fn<|WK p115))<|sc rfl (oA rfl (tp rfl))<|.nil) [8,13,15] rfl [(11,2)] rfl iT (λ a119 w119 st119=>wp_seq ?_)
 obtain⟨v120,p120,h121⟩:=bs h118
 refine st119.sq (sc rfl (oM rfl (tp rfl))<|sc rfl (oM rfl (tp rfl))<|sc rfl (zm (l:=[.tmp 86,.tmp 87]) rfl kN21 (.cons (tp rfl) (.cons (tp rfl) .nil)) (ZM p120))<|sc rfl (yA rfl (tp rfl))<|.nil) [13,89] rfl [(11,2)] rfl iT (λ a122 w122 st122=>?_)
 refine st122.cs (c:=89) rfl h121 (λ c123 h123=>?_) (λ c124 h124=>?_)
 ·
  refine st122.sq0 (sc rfl (oA rfl cB)<|.nil) [6] rfl (λ a125 w125 st125=>wp_ret (zd ?_))
  exact st125.ret rfl rfl h123
 refine wp_skip (za ?_)
 refine st122.sq (sc rfl (oA rfl cI)<|.nil) [13,14] rfl [(11,2)] rfl iT (λ a126 w126 st126=>?_)
 obtain⟨v127,p127,h128⟩:=bs h124
 refine st126.sq0 (sc rfl (oM rfl (tp rfl))<|sc rfl (oM rfl (tp rfl))<|sc rfl (xx (l:=[.tmp 90,.tmp 91]) st126.ob.sub rfl kN27 (.cons (WG st126.ob 2 iI (tp rfl)) (.cons (xw st126.ob.sub (tp rfl)) .nil)) (YM p127) Za)<|sc rfl (oA rfl (tp rfl))<|.nil) [13,14] rfl (λ a129 w129 st129=>wp_seq ?_)
 refine st129.sq0 (sc rfl (oM rfl (tp rfl))<|sc rfl (oCI rfl (tp rfl) cI)<|.nil) [13,14,94] rfl (λ a130 w130 st130=>?_)
 refine st130.cs (c:=94) rfl h128 (λ c131 h131=>?_) (λ c132 h132=>?_)
 ·
  refine st130.sq0 (sc rfl (oA rfl cB)<|.nil) [6] rfl (λ a133 w133 st133=>wp_ret (zd ?_))
  exact st133.ret rfl rfl h131
 refine wp_skip (za (wp_seq ?_))
 refine st130.sq0 (sc rfl (oM rfl (tp rfl))<|sc rfl (oM rfl (tp rfl))<|sc rfl (oCI rfl (tp rfl) (tp rfl))<|.nil) [97] rfl (λ a134 w134 st134=>?_)
 refine st134.cs (c:=97) rfl h132 (λ c135 h135=>?_) (λ c136 h136=>?_)
 ·
  refine st134.sq0 (sc rfl (oA rfl cB)<|.nil) [6] rfl (λ a137 w137 st137=>wp_ret (zd ?_))
  exact st137.ret rfl rfl h135
 refine wp_skip (za ?_)
 refine st134.sq0 (sc rfl (oA rfl cB)<|.nil) [6] rfl (λ a138 w138 st138=>wp_ret ?_)
 exact st138.ret rfl rfl h136
open Go.RowKit Tryz
theorem law_LayersOf{t:Tree}{p:List Int}{s:Str}(ht:Okd t):wI t p s=some true:=by
 unfold wI
 cases hp:cmpI .gtr (p.length:Int) 1048576 with
 | true=>rw[if_pos rfl]
 |
  false=>
  have hp':p.length<=1048576:=by have:=of_decide_eq_false hp;omega
  rw[if_neg (by decide)]
  cases hq:cmpI .gtr (s.l.length:Int) 1048576 with
  | true=>rw[if_pos rfl]
  |
   false=>
   have hq':s.l.length<=1048576:=by have:=of_decide_eq_false hq;omega
   have hsh:sho s:=by unfold sho;omega
   rw[if_neg (by decide),szTree_eq ht (by omega) (by omega),obS]
   cases hs:cmpI .lss (szR (jl t) 1048576) 0 with
   | true=>rw[if_pos rfl]
   |
    false=>
    have hs':¬ szR (jl t) 1048576<0:=of_decide_eq_false hs
    obtain⟨h1,_⟩:=szR_nn (t:=jl t) (left:=1048576) (by omega)
    have h2:jl t<=1048576:=by omega
    have hsm:=sm_tree h2
    have e1:=toTree_eq h2
    have e2:yj p=some p:=toIntS_eq (by unfold totIntS;exact hp')
    have e3:jv t p s=some (jP t p s):=zax hsm hp' hsh
    have e4:wz t p s=some (jP t p s):=LayersOf_eq hsm hp' hsh
    have e6:wN t t=some true:=by rw[eqTree_eq (by omega)];simp
    have e7:wO p p=some true:=by rw[eqIntS_eq (by omega)];simp
    have hl:=layersL_size t p s
    have e5:yE (jP t p s) (jP t p s)=some true:=by rw[eqSS_eq (by omega) λ l h=>by have:=hl.2 l h;omega];simp
    obtain⟨y1,k1,m1,a1,b1⟩:=zaQ (x:=t) (k:=1) h2 (by omega) (by omega)
    obtain⟨y2,k2,m2,a2,b2⟩:=zaR (x:=p) (k:=k1) (by omega) (by omega) (by omega)
    have hk:cmpI .lss k2 0=false:=by simp[cmpI];omega
    rw[if_neg (by decide),e1,obS,e2,obS,e3,obS,obS,obS,e4,obS,e5,obS,if_neg (by decide),obS,e6,obS,if_neg (by decide),obS,e7,obS,if_neg (by decide),m1,obS]
    simp only
    rw[m2,obS]
    simp only
    rw[hk,show((false == false):Bool)=true from rfl,gO_true,obS,if_neg (by decide)]
    exact tail_rows (by omega) (λ l h=>by have:=hl.2 l h;omega) e4
theorem Jl(t:Tree)(p:List Int)(s:Str):Fn prog 4 [dt t,dt p,dt s] (dt true):=.okd (x:=t) (by simp) λ ht=>WA (law_LayersOf ht)
end Go.Proofs.YtobplpdjkfbfoaaGreatDoor
