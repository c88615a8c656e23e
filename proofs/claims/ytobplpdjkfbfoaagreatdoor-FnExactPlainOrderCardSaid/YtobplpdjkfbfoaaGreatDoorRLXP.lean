import Derived.Test.YtobplpdjkfbfoaaGreatDoorRKb
import Derived.Test.YtobplpdjkfbfoaaGreatDoorRP
namespace Go.Proofs.YtobplpdjkfbfoaaGreatDoor
open Go.RowKit Tryz
set_option maxRecDepth 10000
set_option maxHeartbeats 1600000
theorem kT41:tyB prog 41 true 1=true:=by kernel_rfl
theorem kN18:fnB prog 18=true:=by kernel_rfl
theorem kN19:fnB prog 19=true:=by kernel_rfl
theorem kN20:fnB prog 20=true:=by kernel_rfl
theorem kN30:fnB prog 30=true:=by kernel_rfl
theorem kN29:fnB prog 29=true:=by kernel_rfl
theorem kN22:fnB prog 22=true:=by kernel_rfl
theorem kN23:fnB prog 23=true:=by kernel_rfl
theorem kN24:fnB prog 24=true:=by kernel_rfl
theorem kN25:fnB prog 25=true:=by kernel_rfl
def we(x0:Tree)(x1:List Int)(x2:Str):Option Bool:=
if(cmpI .gtr (x1.length:Int) (1048576:Int))=true then(some true)
else(if(cmpI .gtr (x2.l.length:Int) (1048576:Int))=true then(some true)
else((qy x0 (1048576:Int)).bind λ v11=>
if(cmpI .lss v11 (0:Int))=true then(some true)
else((yM x0).bind λ v18=>
(yj x1).bind λ v19=>
(wu v18 v19 x2).bind λ v20=>
(yM x0).bind λ v27=>
(yj x1).bind λ v36=>
(xC v27 v36 x2).bind λ v44=>
(yx v44.1 v20.1).bind λ v52=>
if((!v52)||(v44.2 != v20.2))=true then(some false)
else((yM x0).bind λ v59=>
(wN v27 v59).bind λ v60=>
if(!v60)=true then(some false)
else((yj x1).bind λ v68=>
(wO v36 v68).bind λ v69=>
if(!v69)=true then(some false)
else((jr v27 (1:Int)).bind λ v80=>
(js v36 v80.2).bind λ v86=>
(gO (cmpI .lss v86.2 (0:Int) == false) (yx v44.1 v20.1)).bind λ v90=>
if((cmpI .lss v86.2 (0:Int)||(!v90))||(v44.2 != v20.2))=true then(some false)
else((xi v44.1 (1:Int)).bind λ v99=>
(ym v99.1 (1:Int)).bind λ v104=>
if(cmpI .lss v104 (0:Int))=true then(some false)
else(if(cmpI .neq v104 v99.2)=true then(some false)
else((yM x0).bind λ v115=>
(yj x1).bind λ v116=>
(xC v115 v116 x2).bind λ v117=>
(yx v117.1 v20.1).bind λ v122=>
if((!v122)||(v117.2 != v20.2))=true then(some false)
else((ym v99.1 (1:Int)).bind λ v129=>
if(cmpI .lss v129 (0:Int))=true then(some false)
else(if(cmpI .neq v129 v99.2)=true then(some false)
else(some true))))))))))))
theorem XU{x0:Tree}{x1:List Int}{x2:Str}{r:Bool}(h:we x0 x1 x2=some r):Fn prog 6 [dt x0,dt x1,dt x2] (dt r):=by
 unfold we at h
 refine fnx (fn:=f6) 5 func6 rfl (oD rfl) rfl (λ M w0 a0 st0=>?_)
 refine st0.sq0 (sc rfl (jJ rfl (tp rfl))<|sc rfl (oA rfl cB)<|.nil) [1,2,3] rfl (λ a1 w1 st1=>wp_seq ?_)
 refine st1.sq0 (sc rfl (oM rfl (tp rfl))<|sc rfl (jx rfl kL26 (tp rfl))<|sc rfl (oCI rfl (tp rfl) cI)<|.nil) [1,2,3,21] rfl (λ a2 w2 st2=>?_)
 refine st2.cs (c:=21) rfl h (λ c3 h3=>?_) (λ c4 h4=>?_)
 ·
  refine st2.sq0 (sc rfl (oA rfl cB)<|.nil) [6] rfl (λ a5 w5 st5=>wp_ret (zd ?_))
  exact st5.ret rfl rfl h3
 refine wp_skip (za (wp_seq ?_))
 refine st2.sq0 (sc rfl (oM rfl (tp rfl))<|sc rfl (YN rfl kX9 (tp rfl))<|sc rfl (oCI rfl (tp rfl) cI)<|.nil) [1,2,3,24] rfl (λ a6 w6 st6=>?_)
 refine st6.cs (c:=24) rfl h4 (λ c7 h7=>?_) (λ c8 h8=>?_)
 ·
  refine st6.sq0 (sc rfl (oA rfl cB)<|.nil) [6] rfl (λ a9 w9 st9=>wp_ret (zd ?_))
  exact st9.ret rfl rfl h7
 refine wp_skip (za ?_)
 refine st6.sq0 (sc rfl (oA rfl cI)<|.nil) [1,2,3,7] rfl (λ a10 w10 st10=>?_)
 obtain⟨v11,p11,h12⟩:=bs h8
 refine st10.sq0 (sc rfl (zk rfl kT41 (tp rfl))<|sc rfl (oM rfl (tp rfl))<|sc rfl (zm (l:=[.tmp 25,.tmp 26]) rfl kN18 (.cons (tp rfl) (.cons (tp rfl) .nil)) (JF p11))<|sc rfl (oA rfl (tp rfl))<|.nil) [1,2,3,7] rfl (λ a13 w13 st13=>wp_seq ?_)
 refine st13.sq0 (sc rfl (oM rfl (tp rfl))<|sc rfl (oCI rfl (tp rfl) cI)<|.nil) [1,2,3,29] rfl (λ a14 w14 st14=>?_)
 refine st14.cs (c:=29) rfl h12 (λ c15 h15=>?_) (λ c16 h16=>?_)
 ·
  refine st14.sq0 (sc rfl (oA rfl cB)<|.nil) [6] rfl (λ a17 w17 st17=>wp_ret (zd ?_))
  exact st17.ret rfl rfl h15
 refine wp_skip (za ?_)
 obtain⟨v18,p18,v19,p19,v20,p20,h23⟩:=bsC h16
 refine st14.sq0 (sc rfl (zk rfl kT41 (tp rfl))<|sc rfl (zm (l:=[.tmp 31]) rfl kN19 (.cons (tp rfl) .nil) (FnN.fn<|wM p18))<|sc rfl (oM rfl (tp rfl))<|sc rfl (zm (l:=[.tmp 33]) rfl kN20 (.cons (tp rfl) .nil) ((wL p19)).fn)<|sc rfl (oM rfl (tp rfl))<|sc rfl (zm (l:=[.tmp 32,.tmp 34,.tmp 35]) rfl kN30 (.cons (tp rfl) (.cons (tp rfl) (.cons (tp rfl) .nil))) (QN p20))<|sc rfl (oM rfl (tp rfl))<|sc rfl (xExt (i:=0) rfl (tp rfl) rfl)<|sc rfl (xExt (i:=1) rfl (tp rfl) rfl)<|sc rfl (oA rfl (tp rfl))<|sc rfl (oA rfl (tp rfl))<|.nil) [1,2,3,8,9] rfl (λ a24 w24 st24=>wp_seq (wp_region_list ?_))
 refine st24.seg 1 (
  sc rfl (zk rfl kT41 (tp rfl))<|.nil) [1,2,3,8,9,39] rfl [] rfl trivial (λ a25 w25 st25=>?_)
 obtain⟨v27,p27,h28⟩:=bs h23
 refine st25.cN (l:=[.tmp 39]) 0 rfl rfl kN19 (.cons (tp rfl) .nil) (wM p27) (by simp) [1,2,3,8,9] rfl [] rfl rfl (λ G26 M26 a26 w26 st26=>?_)
 have st29:=st26.gs (Gs':=[G26,oneB none,oneB none,oneB none,oneB none]) rfl
 refine st29.alcW (ow:=(owTree (Ow.row 86 (owFile (Ow.row 82 (Ow.frz (α:=Stmt))))))) 4 rfl rfl kZ25 (owTree.z Ow.row_z) (by simp) [1,2,3,8,9] rfl [40] rfl rfl (λ b30 M30 a30 w30 st30=>?_)
 have st31:=st30.gs (Gs':=[G26,oneB none,oneB none,oneB none,(oneB (some b30))]) rfl
 refine st31.stO (sb:=10) (tv:=40) 4 0 (PV.root.box rfl) rfl rfl rfl kT25 (by simp) (by simp) (by decide) (je rfl) rfl rfl rfl iI iI [1,2,3,8,9] rfl [] rfl rfl rfl (λ G32 w32 st32=>?_)
 have st33:=st32.gs (Gs':=[oneB none,oneB none,oneB none,oneB none,G32]) rfl
 refine wpList_nil (za (wp_seq (wp_region_list ?_)))
 refine st33.seg 1 (
  sc rfl (oM rfl (tp rfl))<|.nil) [1,2,3,8,9,41] rfl [(10,4)] rfl iT (λ a34 w34 st34=>?_)
 obtain⟨v36,p36,h37⟩:=bs h28
 refine st34.cN (l:=[.tmp 41]) 2 rfl rfl kN20 (.cons (tp rfl) .nil) (wL p36).n (by simp) [1,2,3,8,9] rfl [10] rfl rfl (λ G35 M35 a35 w35 st35=>?_)
 have st38:=st35.gs (Gs':=[oneB none,oneB none,G35,oneB none,G32]) rfl
 refine st38.nmR (s:=42) 2 rfl rfl iI [10] rfl (λ g39 A39 c39 hA39 st39=>?_)
 refine st39.seg 1 (
  sc rfl (oA rfl (tp rfl))<|.nil) [1,2,3,8,9] rfl [(10,4),(11,2)] rfl ⟨iI,iT⟩ (λ a40 w40 st40=>?_)
 refine wpList_nil (za (wp_seq (wp_region_list ?_)))
 refine st40.hdW (s:=10) 4 true (λ _=>(PV.root.box rfl)) rfl rfl iI [11] rfl (λ cs41 hS41 st41=>?_)
 refine st41.seg 3 (
  sc rfl (xLw (sb:=10) (.head _) rfl (hS41 rfl) rfl kT25 (je rfl) rfl)<|sc rfl (oM rfl (tp rfl))<|sc rfl (oM rfl (tp rfl))<|.nil) [1,2,3,8,9,44,46] rfl [(10,4),(11,2),(45,2)] rfl ⟨iI,⟨iI,iT⟩⟩ (λ a42 w42 st42=>?_)
 obtain⟨v44,p44,h45⟩:=bs h37
 refine st42.cNro (l:=[.tmp 44,.tmp 45,.tmp 46]) 1 rfl rfl kN29 st42.ob.sub (.cons (lendP (sb:=10) st42.ob 4 (PV.root.box rfl) (.head _) rfl (X2 rfl (hS41 rfl)) (tp rfl) rfl iI) (.cons (WG st42.ob 2 iI (tp rfl)) (.cons (xw st42.ob.sub (tp rfl)) .nil))) (XB p44) xF (full_row full_str) (by simp) [1,2,3,8,9] rfl [10,11] rfl rfl (λ G43 M43 a43 w43 st43=>?_)
 have st46:=st43.gs (Gs':=[oneB none,G43,G35,oneB none,G32]) rfl
 refine st46.mvD (s:=47) 1 rfl rfl rfl rfl iI rfl [10,11] rfl (λ a47 st47=>?_)
 refine st47.ex2o (s:=43) 1 rfl rfl rfl rfl iI rfl [10,11] rfl (λ a48 st48=>?_)
 refine st48.nmR (s:=48) 1 rfl rfl iI [10,11] rfl (λ g49 A49 c49 hA49 st49=>?_)
 refine st49.seg 3 (
  sc rfl (xEx2o rfl (tp rfl))<|sc rfl (oA rfl (tp rfl))<|sc rfl (oA rfl (tp rfl))<|.nil) [1,2,3,8,9,13] rfl [(10,4),(11,2),(12,1)] rfl ⟨iI,⟨iI,iT⟩⟩ (λ a50 w50 st50=>?_)
 refine wpList_nil ?_
 have st51:=st50.ncf (s:=10) 4 rfl rfl iI [11,12] rfl
 refine za (wp_seq ?_)
 obtain⟨v52,p52,h53⟩:=bs h45
 refine st51.sq (sc rfl (oM rfl (tp rfl))<|sc rfl (oM rfl (tp rfl))<|sc rfl (xx (l:=[.tmp 50,.tmp 51]) st51.ob.sub rfl kN34 (.cons (WG st51.ob 1 iI (tp rfl)) (.cons (xw st51.ob.sub (tp rfl)) .nil)) (qY p52) xF)<|sc rfl (yA rfl (tp rfl))<|sc rfl (oM rfl (tp rfl))<|sg rfl rfl (λ hg=>oM rfl (tp rfl))<|sg rfl rfl (λ hg=>oM rfl (tp rfl))<|sg rfl rfl (λ hg=>op_neT rfl kV4 (zn hg rfl) (zn hg rfl))<|sc rfl (wJ rfl (tp rfl) (zb rfl))<|.nil) [1,2,3,8,9,13,58] rfl [(10,4),(11,2),(12,1)] rfl ⟨iI,⟨iI,iT⟩⟩ (λ a54 w54 st54=>?_)
 refine st54.cs (c:=58) rfl h53 (λ c55 h55=>?_) (λ c56 h56=>?_)
 ·
  refine st54.sq0 (sc rfl (oA rfl cB)<|.nil) [6] rfl (λ a57 w57 st57=>wp_ret (zd ?_))
  exact st57.ret rfl rfl h55
 refine wp_skip (za (wp_seq (wp_seq ?_)))
 obtain⟨v59,p59,v60,p60,h62⟩:=bsB h56
 refine st54.hdW (s:=10) 4 true (λ _=>(PV.root.box rfl)) rfl rfl iI [11,12] rfl (λ cs58 hS58 st58=>?_)
 refine st58.dr (D:=[_,_,_,_,_]) zK [[(10,nS)],[(3,nS)],[(60,1)],[(59,0),(61,2),(10,nS)],[(62,3)]] (by decide +kernel) (
  rc rfl rfl (xLw (sb:=10) (.head _) rfl (hS58 rfl) rfl kT25 (je rfl) rfl)<|rc rfl rfl (zk rfl kT41 (tp rfl))<|rc rfl rfl (zm (l:=[.tmp 60]) rfl kN19 (.cons (tp rfl) .nil) (FnN.fn<|wM p59))<|rc rfl rfl (xx (l:=[.tmp 59,.tmp 61]) st58.ob.sub rfl kN22 (.cons (lendP (sb:=10) st58.ob 4 (PV.root.box rfl) (.head _) rfl (X2 rfl (hS58 rfl)) (tp rfl) rfl iI) (.cons (xw st58.ob.sub (tp rfl)) .nil)) (JG p60) xF)<|rc rfl rfl (yA rfl (tp rfl))<|.nil) [1,2,3,8,9,13,63] rfl [(10,4),(11,2),(12,1)] rfl ⟨iI,⟨iI,iT⟩⟩ (λ a63 w63 st63=>?_)
 have st64:=st63.ncf (s:=10) 4 rfl rfl iI [11,12] rfl
 refine za ?_
 refine st64.cs (c:=63) rfl h62 (λ c65 h65=>?_) (λ c66 h66=>?_)
 ·
  refine st64.sq0 (sc rfl (oA rfl cB)<|.nil) [6] rfl (λ a67 w67 st67=>wp_ret (zd ?_))
  exact st67.ret rfl rfl h65
 refine wp_skip (za (wp_seq ?_))
 obtain⟨v68,p68,v69,p69,h71⟩:=bsB h66
 refine st64.sq (sc rfl (oM rfl (tp rfl))<|sc rfl (oM rfl (tp rfl))<|sc rfl (zm (l:=[.tmp 65]) rfl kN20 (.cons (tp rfl) .nil) ((wL p68)).fn)<|sc rfl (xx (l:=[.tmp 64,.tmp 66]) st64.ob.sub rfl kN23 (.cons (WG st64.ob 2 iI (tp rfl)) (.cons (xw st64.ob.sub (tp rfl)) .nil)) (JH p69) xF)<|sc rfl (yA rfl (tp rfl))<|.nil) [1,2,3,8,9,13,68] rfl [(10,4),(11,2),(12,1)] rfl ⟨iI,⟨iI,iT⟩⟩ (λ a72 w72 st72=>?_)
 refine st72.cs (c:=68) rfl h71 (λ c73 h73=>?_) (λ c74 h74=>?_)
 ·
  refine st72.sq0 (sc rfl (oA rfl cB)<|.nil) [6] rfl (λ a75 w75 st75=>wp_ret (zd ?_))
  exact st75.ret rfl rfl h73
 refine wp_skip (za ?_)
 refine st72.sq (sc rfl (oA rfl cI)<|.nil) [1,2,3,8,9,13,14] rfl [(10,4),(11,2),(12,1)] rfl ⟨iI,⟨iI,iT⟩⟩ (λ a76 w76 st76=>wp_seq (wp_region_list ?_))
 refine st76.hdW (s:=10) 4 true (λ _=>(PV.root.box rfl)) rfl rfl iI [11,12] rfl (λ cs77 hS77 st77=>?_)
 refine st77.seg 2 (
  sc rfl (xLw (sb:=10) (.head _) rfl (hS77 rfl) rfl kT25 (je rfl) rfl)<|sc rfl (oM rfl (tp rfl))<|.nil) [1,2,3,8,9,13,14,69,70] rfl [(10,4),(11,2),(12,1)] rfl ⟨iI,⟨iI,iT⟩⟩ (λ a78 w78 st78=>?_)
 obtain⟨v80,p80,h81⟩:=bs h74
 refine st78.cSF (l:=[.tmp 70]) 4 (st78.bkH (sb:=10) (PV.root.box rfl) (.head _) rfl (X2 rfl (hS77 rfl)) rfl iI) rfl rfl kN24 (st78.st.has 69 _ rfl) (by simp) (.cons (tp rfl) .nil) (WI p80) [1,2,3,8,9,13,14] rfl [11,12] rfl rfl (by decide) (λ G79 M79 a79 w79 st79=>?_)
 have st82:=st79.gs (Gs':=[oneB none,G43,G35,oneB none,G79]) rfl
 refine st82.seg 1 (
  sc rfl (oA rfl (tp rfl))<|.nil) [1,2,3,8,9,13,14] rfl [(11,2),(12,1)] rfl ⟨iI,iT⟩ (λ a83 w83 st83=>?_)
 refine wpList_nil (za (wp_seq (wp_region_list ?_)))
 refine st83.seg 2 (
  sc rfl (oM rfl (tp rfl))<|sc rfl (oM rfl (tp rfl))<|.nil) [1,2,3,8,9,13,14,73] rfl [(12,1),(72,2)] rfl ⟨iI,iT⟩ (λ a84 w84 st84=>?_)
 obtain⟨v86,p86,h87⟩:=bs h81
 refine st84.cSF (l:=[.tmp 73]) 2 (st84.bkN (s:=72) rfl iI) rfl rfl kN25 rfl (by simp) (.cons (tp rfl) .nil) (WJ p86) [1,2,3,8,9,13,14] rfl [12] rfl rfl (by decide) (λ G85 M85 a85 w85 st85=>?_)
 have st88:=st85.gs (Gs':=[oneB none,G43,G85,oneB none,G79]) rfl
 refine st88.seg 1 (
  sc rfl (oA rfl (tp rfl))<|.nil) [1,2,3,8,9,13,14] rfl [(12,1)] rfl iT (λ a89 w89 st89=>?_)
 refine wpList_nil (za (wp_seq ?_))
 obtain⟨v90,p90,h91⟩:=bs h87
 refine st89.sq (sc rfl (oM rfl (tp rfl))<|sc rfl (oCI rfl (tp rfl) cI)<|sc rfl (oM rfl (tp rfl))<|sg rfl rfl (λ hg=>oM rfl (tp rfl))<|sg rfl rfl (λ hg=>oM rfl (tp rfl))<|sg rfl rfl (λ hg=>xx (l:=[.tmp 78,.tmp 79]) st89.ob.sub rfl kN34 (.cons (WG st89.ob 1 iI (zn hg rfl)) (.cons (xw st89.ob.sub (zn hg rfl)) .nil)) (qY (gh hg p90)) xF)<|sg rfl rfl (λ hg=>yA rfl (zn hg rfl))<|sc rfl (wJ rfl (tp rfl) (zb rfl))<|sc rfl (oM rfl (tp rfl))<|sg rfl rfl (λ hg=>oM rfl (tp rfl))<|sg rfl rfl (λ hg=>oM rfl (tp rfl))<|sg rfl rfl (λ hg=>op_neT rfl kV4 (zn hg rfl) (zn hg rfl))<|sc rfl (wJ rfl (tp rfl) (zb rfl))<|.nil) [1,2,3,8,9,87] rfl [(12,1)] rfl iT (λ a92 w92 st92=>?_)
 refine st92.cs (c:=87) rfl h91 (λ c93 h93=>?_) (λ c94 h94=>?_)
 ·
  refine st92.sq0 (sc rfl (oA rfl cB)<|.nil) [6] rfl (λ a95 w95 st95=>wp_ret (zd ?_))
  exact st95.ret rfl rfl h93
 refine wp_skip (za ?_)
 refine st92.sq (sc rfl (oA rfl cI)<|.nil) [1,2,3,8,9,15] rfl [(12,1)] rfl iT (λ a96 w96 st96=>wp_seq (wp_region_list ?_))
 refine st96.seg 2 (
  sc rfl (oM rfl (tp rfl))<|sc rfl (oM rfl (tp rfl))<|.nil) [1,2,3,8,9,15,89] rfl [(12,1),(88,1)] rfl ⟨iI,iT⟩ (λ a97 w97 st97=>?_)
 obtain⟨v99,p99,h100⟩:=bs h94
 refine st97.cSF (l:=[.tmp 89]) 1 (st97.bkN (s:=12) rfl iI) rfl rfl kN35 ((st97.st.has 88 _ rfl).1.trans (st97.st.has 12 _ rfl).1.symm) (by simp) (.cons (tp rfl) .nil) (Xm p99) [1,2,3,8,9,15] rfl [] rfl rfl (by decide) (λ G98 M98 a98 w98 st98=>?_)
 have st101:=st98.gs (Gs':=[oneB none,G98,G85,oneB none,G79]) rfl
 refine st101.seg 1 (
  sc rfl (oA rfl (tp rfl))<|.nil) [1,2,3,8,9,15] rfl [(12,1)] rfl iT (λ a102 w102 st102=>?_)
 refine wpList_nil (za ?_)
 refine st102.sq (sc rfl (oA rfl cI)<|.nil) [1,2,3,8,9,15,16] rfl [(12,1)] rfl iT (λ a103 w103 st103=>?_)
 obtain⟨v104,p104,h105⟩:=bs h100
 refine st103.sq (sc rfl (oM rfl (tp rfl))<|sc rfl (oM rfl (tp rfl))<|sc rfl (xx (l:=[.tmp 91,.tmp 92]) st103.ob.sub rfl kN36 (.cons (WG st103.ob 1 iI (tp rfl)) (.cons (xw st103.ob.sub (tp rfl)) .nil)) (Zz p104) Za)<|sc rfl (oA rfl (tp rfl))<|.nil) [1,2,3,8,9,15,16] rfl [(12,1)] rfl iT (λ a106 w106 st106=>wp_seq ?_)
 refine st106.sq (sc rfl (oM rfl (tp rfl))<|sc rfl (oCI rfl (tp rfl) cI)<|.nil) [1,2,3,8,9,15,16,95] rfl [(12,1)] rfl iT (λ a107 w107 st107=>?_)
 refine st107.cs (c:=95) rfl h105 (λ c108 h108=>?_) (λ c109 h109=>?_)
 ·
  refine st107.sq0 (sc rfl (oA rfl cB)<|.nil) [6] rfl (λ a110 w110 st110=>wp_ret (zd ?_))
  exact st110.ret rfl rfl h108
 refine wp_skip (za (wp_seq ?_))
 refine st107.sq (sc rfl (oM rfl (tp rfl))<|sc rfl (oM rfl (tp rfl))<|sc rfl (oCI rfl (tp rfl) (tp rfl))<|.nil) [1,2,3,8,9,15,98] rfl [(12,1)] rfl iT (λ a111 w111 st111=>?_)
 refine st111.cs (c:=98) rfl h109 (λ c112 h112=>?_) (λ c113 h113=>?_)
 ·
  refine st111.sq0 (sc rfl (oA rfl cB)<|.nil) [6] rfl (λ a114 w114 st114=>wp_ret (zd ?_))
  exact st114.ret rfl rfl h112
 refine wp_skip (za ?_)
 obtain⟨v115,p115,v116,p116,v117,p117,h120⟩:=bsC h113
 refine st111.sq (sc rfl (zk rfl kT41 (tp rfl))<|sc rfl (zm (l:=[.tmp 100]) rfl kN19 (.cons (tp rfl) .nil) (FnN.fn<|wM p115))<|sc rfl (oM rfl (tp rfl))<|sc rfl (zm (l:=[.tmp 102]) rfl kN20 (.cons (tp rfl) .nil) ((wL p116)).fn)<|sc rfl (oM rfl (tp rfl))<|sc rfl (zm (l:=[.tmp 101,.tmp 103,.tmp 104]) rfl kN29 (.cons (tp rfl) (.cons (tp rfl) (.cons (tp rfl) .nil))) (FnN.fn2o<|XB p117))<|sc rfl (oM rfl (tp rfl))<|sc rfl (xExt (i:=0) rfl (tp rfl) rfl)<|sc rfl (xExt (i:=1) rfl (tp rfl) rfl)<|sc rfl (oA rfl (tp rfl))<|sc rfl (oA rfl (tp rfl))<|.nil) [8,9,15,17,18] rfl [(12,1)] rfl iT (λ a121 w121 st121=>wp_seq ?_)
 obtain⟨v122,p122,h123⟩:=bs h120
 refine st121.sq (sc rfl (oM rfl (tp rfl))<|sc rfl (oM rfl (tp rfl))<|sc rfl (zm (l:=[.tmp 108,.tmp 109]) rfl kN34 (.cons (tp rfl) (.cons (tp rfl) .nil)) (qY p122))<|sc rfl (yA rfl (tp rfl))<|sc rfl (oM rfl (tp rfl))<|sg rfl rfl (λ hg=>oM rfl (tp rfl))<|sg rfl rfl (λ hg=>oM rfl (tp rfl))<|sg rfl rfl (λ hg=>op_neT rfl kV4 (zn hg rfl) (zn hg rfl))<|sc rfl (wJ rfl (tp rfl) (zb rfl))<|.nil) [15,116] rfl [(12,1)] rfl iT (λ a124 w124 st124=>?_)
 refine st124.cs (c:=116) rfl h123 (λ c125 h125=>?_) (λ c126 h126=>?_)
 ·
  refine st124.sq0 (sc rfl (oA rfl cB)<|.nil) [6] rfl (λ a127 w127 st127=>wp_ret (zd ?_))
  exact st127.ret rfl rfl h125
 refine wp_skip (za ?_)
 refine st124.sq (sc rfl (oA rfl cI)<|.nil) [15,16] rfl [(12,1)] rfl iT (λ a128 w128 st128=>?_)
 obtain⟨v129,p129,h130⟩:=bs h126
 refine st128.sq0 (sc rfl (oM rfl (tp rfl))<|sc rfl (oM rfl (tp rfl))<|sc rfl (xx (l:=[.tmp 117,.tmp 118]) st128.ob.sub rfl kN36 (.cons (WG st128.ob 1 iI (tp rfl)) (.cons (xw st128.ob.sub (tp rfl)) .nil)) (Zz p129) Za)<|sc rfl (oA rfl (tp rfl))<|.nil) [15,16] rfl (λ a131 w131 st131=>wp_seq ?_)
 refine st131.sq0 (sc rfl (oM rfl (tp rfl))<|sc rfl (oCI rfl (tp rfl) cI)<|.nil) [15,16,121] rfl (λ a132 w132 st132=>?_)
 refine st132.cs (c:=121) rfl h130 (λ c133 h133=>?_) (λ c134 h134=>?_)
 ·
  refine st132.sq0 (sc rfl (oA rfl cB)<|.nil) [6] rfl (λ a135 w135 st135=>wp_ret (zd ?_))
  exact st135.ret rfl rfl h133
 refine wp_skip (za (wp_seq ?_))
 refine st132.sq0 (sc rfl (oM rfl (tp rfl))<|sc rfl (oM rfl (tp rfl))<|sc rfl (oCI rfl (tp rfl) (tp rfl))<|.nil) [124] rfl (λ a136 w136 st136=>?_)
 refine st136.cs (c:=124) rfl h134 (λ c137 h137=>?_) (λ c138 h138=>?_)
 ·
  refine st136.sq0 (sc rfl (oA rfl cB)<|.nil) [6] rfl (λ a139 w139 st139=>wp_ret (zd ?_))
  exact st139.ret rfl rfl h137
 refine wp_skip (za ?_)
 refine st136.sq0 (sc rfl (oA rfl cB)<|.nil) [6] rfl (λ a140 w140 st140=>wp_ret ?_)
 exact st140.ret rfl rfl h138
open Go.RowKit Tryz
theorem zbK{t:Tree}{p:List Int}{s:Str}(ht:Okd t):we t p s=some true:=by
 unfold we
 cases hp:cmpI .gtr (p.length:Int) 1048576 with
 | true=>rw[if_pos rfl]
 |
  false=>
  have hp':p.length<=1048576:=by have:=of_decide_eq_false hp;omega
  rw[if_neg (by decide)]
  cases hq:cmpI .gtr (s.l.length:Int) 1048576 with
  | true=>rw[if_pos rfl]
  |
   false=>
   have hq':s.l.length<=1048576:=by have:=of_decide_eq_false hq;omega
   have hsh:sho s:=by unfold sho;omega
   rw[if_neg (by decide),szTree_eq ht (by omega) (by omega),obS]
   cases hs:cmpI .lss (szR (jl t) 1048576) 0 with
   | true=>rw[if_pos rfl]
   |
    false=>
    have hs':¬ szR (jl t) 1048576<0:=of_decide_eq_false hs
    obtain⟨h1,_⟩:=szR_nn (t:=jl t) (left:=1048576) (by omega)
    have h2:jl t<=1048576:=by omega
    have hsm:=sm_tree h2
    have e1:=toTree_eq h2
    have e2:yj p=some p:=toIntS_eq (by unfold totIntS;exact hp')
    have e3:wu t p s=some (YL t p s):=Qk hsm hp' hsh
    have e4:xC t p s=some (YL t p s):=PlainOrder_eq hsm hp' hsh
    have e6:wN t t=some true:=by rw[eqTree_eq (by omega)];simp
    have e7:wO p p=some true:=by rw[eqIntS_eq (by omega)];simp
    have hl:(YL t p s).1.length<=1125899906842624:=Nat.le_trans (Jk t p s) (by decide)
    have e5:yx (YL t p s).1 (YL t p s).1=some true:=by rw[Ws (by omega)];simp
    obtain⟨y1,k1,m1,a1,b1⟩:=zaQ (x:=t) (k:=1) h2 (by omega) (by omega)
    obtain⟨y2,k2,m2,a2,b2⟩:=zaR (x:=p) (k:=k1) (by omega) (by omega) (by omega)
    have hk:cmpI .lss k2 0=false:=by simp[cmpI];omega
    rw[if_neg (by decide),e1,obS,e2,obS,e3,obS,obS,obS,e4,obS,e5,obS,if_neg (by simp),obS,e6,obS,if_neg (by decide),obS,e7,obS,if_neg (by decide),m1,obS]
    simp only
    rw[m2,obS]
    simp only
    rw[hk,show((false == false):Bool)=true from rfl,gO_true,obS,if_neg (by simp)]
    exact tail_ob hl e4
theorem WB(t:Tree)(p:List Int)(s:Str):Fn prog 6 [dt t,dt p,dt s] (dt true):=.okd (x:=t) (by simp) λ ht=>XU (zbK ht)
end Go.Proofs.YtobplpdjkfbfoaaGreatDoor
