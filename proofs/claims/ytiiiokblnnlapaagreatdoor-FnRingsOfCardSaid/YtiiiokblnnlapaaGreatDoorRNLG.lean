/-
  Models of functions, and their walks: printed by a program of our own (wip/mxo.py).
  Models of functions, and their walks: printed by a program of our own (wip/mxo.py).
-/
import Derived.Test.YtiiiokblnnlapaaGreatDoorRMLG
import Derived.Test.YtiiiokblnnlapaaGreatDoorROLG
namespace Go.Proofs.YtiiiokblnnlapaaGreatDoor
open Go.RowKit
set_option maxRecDepth 10000
set_option maxHeartbeats 1600000
theorem kN192:fnB Tryz.prog 192=true:=by kernel_rfl
def j8(x0:Reader):Option (Reader×Tree):=
(jJ x0).bind λ v5=>
Option.bind (α:=Reader×Tree) (if(cmpI .gtr (v5.2.files.length:Int) (0:Int))=true then((zz v5.1 (24:Int)).bind λ v20=>
if(cmpI .eql v20.2 (0:Int))=true then((atI v5.2.files (0:Int)).bind λ v30=>
(appO 80 v5.2.files ([v30]:List File)).bind λ v38=>
some (v20.1,(⟨v38⟩:Tree)))
else(if(cmpI .eql v20.2 (1:Int))=true then((zX v20.1 ([(-1:Int),(3:Int)]:List Int)).bind λ v59=>
(atI v5.2.files (0:Int)).bind λ v62=>
some (v59.1,(⟨(v5.2.files.set (0:Int).toNat ({ v62 with root:=v59.2 }))⟩:Tree)))
else(if(cmpI .eql v20.2 (2:Int))=true then((zX v20.1 ([(-1:Int),(100:Int)]:List Int)).bind λ v90=>
(atI v5.2.files (0:Int)).bind λ v93=>
some (v90.1,(⟨(v5.2.files.set (0:Int).toNat ({ v93 with stamp:=v90.2 }))⟩:Tree)))
else(if(cmpI .eql v20.2 (3:Int))=true then((atI v5.2.files (0:Int)).bind λ v121=>
(appO 56 v121.body ([(⟨(9:Int),⟨[]⟩,0,⟨[]⟩,0⟩:Stmt)]:List Stmt)).bind λ v132=>
(atI v5.2.files (0:Int)).bind λ _v135=>
some (v20.1,(⟨(v5.2.files.set (0:Int).toNat ({ v121 with body:=v132 }))⟩:Tree)))
else(some (v20.1,v5.2))))))
else(some (v5.1,v5.2))) λ o12=>
some (o12.1,o12.2)
theorem QG{x0:Reader}{r:Reader×Tree}(h:j8 x0=some r):FnS Tryz.prog 146 (Ow.box (Ow.frz (α:=Reader))) ⟨x0⟩ [] ⟨r.1⟩ (.ow (owTree (Ow.row 94 (Ow.frz (α:=File)))) r.2):=by
 unfold j8 at h
 refine fnSB (fn:=Tryz.f146) 4 9 Tryz.func146 rfl (of_decide_eq_true rfl) rfl (λ M G w0 b0 a0 st0=>?_)
 refine wp_seq (wp_region_list ?_)
 refine st0.alcW (ow:=(owTree (Ow.row 94 (Ow.frz (α:=File))))) 7 rfl rfl kZ30 (owTree.z Ow.row_z) (by simp) [] rfl [0] rfl rfl (λ b1 M1 a1 w1 st1=>?_)
 have st2:=st1.gs (Gs':=[oneB none,oneB none,oneB none,oneB none,G,oneB none,oneB none,(oneB (some b1)),oneB none]) rfl
 refine wpList_nil (za (wp_seq (wp_region_list ?_)))
 refine st2.seg 1 (
  sc rfl (oM rfl (zE rfl))<|.nil) [4] rfl [(0,4),(2,7)] rfl ⟨iI,⟨iI,trivial⟩⟩ (λ a3 w3 st3=>?_)
 obtain⟨v5,p5,h6⟩:=bs h
 refine st3.cSO (l:=[]) 4 0 (st3.bkN (s:=0) rfl iI) rfl rfl kN192 (Eq.trans (st3.st.has 4 _ rfl) (st3.st.has 0 _ rfl).1.symm) (by simp) (by simp) (by decide) .nil (Qj p5) [] rfl [2] rfl rfl rfl rfl (by decide) (λ G4 H4 M4 a4 w4 st4=>?_)
 have st7:=st4.gs (Gs':=[H4,oneB none,oneB none,oneB none,G4,oneB none,oneB none,(oneB (some b1)),oneB none]) rfl
 refine st7.alcW (ow:=(owTree (Ow.row 94 (owFile (Ow.row 173 (Ow.frz (α:=Stmt))))))) 8 rfl rfl kZ30 (owTree.z Ow.row_z) (by simp) [] rfl [0,2,5] rfl rfl (λ b8 M8 a8 w8 st8=>?_)
 have st9:=st8.gs (Gs':=[H4,oneB none,oneB none,oneB none,G4,oneB none,oneB none,(oneB (some b1)),(oneB (some b8))]) rfl
 refine st9.stO (sb:=3) (tv:=5) 8 0 (PV.root.box rfl) rfl rfl rfl kT30 (by simp) (by simp) (by decide) (zE rfl) rfl rfl rfl iI iI [] rfl [0,2] rfl rfl rfl (λ G10 w10 st10=>?_)
 have st11:=st10.gs (Gs':=[oneB none,oneB none,oneB none,oneB none,G4,oneB none,oneB none,(oneB (some b1)),G10]) rfl
 refine wpList_nil (za ?_)
 obtain⟨o12,p12,k12⟩:=bs h6
 refine zo (λ a w=>∃ M1 q12_0 q12_1 q12_2 q12_3 q12_4 q12_5 q12_6 q12_7 q12_8,Sx (Frm.chg w0 G) 56 M M1 [q12_0,q12_1,q12_2,q12_3,q12_4,q12_5,q12_6,q12_7,q12_8] [] [(0,4,dnm (Ow.box (Ow.frz (α:=Reader))) q12_4 ⟨o12.1⟩ (.pointer (some ⟨b0,0,none⟩)) []),(2,7,dow (Ow.box (owTree (Ow.row 94 (Ow.frz (α:=File))))) q12_7 ⟨Yn⟩),(3,8,dow (Ow.box (owTree (Ow.row 94 (Ow.frz (α:=File))))) q12_8 ⟨o12.2⟩)] a w) ?_ ?_
 ·
  refine st11.hdR (s:=3) 8 true (λ _=>((PV.root.box rfl).fld owTree.f0)) rfl rfl iI [0,2] rfl (λ g13 A13 c13 hA13 st13=>?_)
  refine st13.sq (sc rfl (xFa rfl wz (zE rfl))<|sc rfl (xLc (sb:=3) (.head _) rfl rfl rfl kT28 (tp rfl) rfl)<|sc rfl (xLe rfl kL28 (tp rfl))<|sc rfl (oCI rfl (tp rfl) cI)<|.nil) [9] rfl [(0,4),(2,7),(3,8)] rfl ⟨iI,⟨iI,⟨iI,trivial⟩⟩⟩ (λ a14 w14 st14=>?_)
  have st15:=st14.ncf (s:=3) 8 rfl rfl iI [0,2] rfl
  refine st15.cs (c:=9) rfl p12 (λ c16 h16=>?_) (λ c17 h17=>?_)
  ·
   refine wp_seq (wp_region_list ?_)
   refine st15.seg 1 (
    sc rfl (oM rfl (zE rfl))<|.nil) [10] rfl [(0,4),(2,7),(3,8)] rfl ⟨iI,⟨iI,⟨iI,trivial⟩⟩⟩ (λ a18 w18 st18=>?_)
   obtain⟨v20,p20,h21⟩:=bs h16
   refine st18.cSF (l:=[.const (.int .i64 24)]) 4 (st18.bkN (s:=0) rfl iI) rfl rfl jQ (Eq.trans (st18.st.has 10 _ rfl) (st18.st.has 0 _ rfl).1.symm) (by simp) (.cons cI .nil) (zD p20) [] rfl [2,3] rfl rfl (by decide) (λ G19 M19 a19 w19 st19=>?_)
   have st22:=st19.gs (Gs':=[oneB none,oneB none,oneB none,oneB none,G19,oneB none,oneB none,(oneB (some b1)),G10]) rfl
   refine wpList_nil (za (wp_block ?_))
   refine st22.sq (sc rfl (oCI rfl (tp rfl) cI)<|sc rfl (oA rfl (tp rfl))<|.nil) [11,12] rfl [(0,4),(2,7),(3,8)] rfl ⟨iI,⟨iI,⟨iI,trivial⟩⟩⟩ (λ a23 w23 st23=>?_)
   refine st23.cs (c:=12) rfl h21 (λ c24 h24=>?_) (λ c25 h25=>?_)
   ·
    have st26:=st23.unm (s:=3) 8 rfl rfl iI [0,2] rfl
    refine st26.thin (s:=3) (o2:=(Ow.box (owTree (Ow.row 94 (Ow.frz (α:=File)))))) 8 (qX (qW qV)) rfl rfl (by simp) iI [11,12] rfl [0,2] rfl rfl (λ G27 M27 st27=>?_)
    obtain⟨v30,p30,h31⟩:=bs h24
    refine st27.nmB (s:=3) 8 rfl rfl iI [0,2] rfl (λ b28 st28=>?_)
    refine st28.hdR (s:=3) 8 true (λ _=>((PV.root.box rfl).fld owTree.f0)) rfl rfl iI [0,2] rfl (λ g29 A29 c29 hA29 st29=>?_)
    refine st29.drn (D:=[_,_,_,_,_,_,_]) zR 7 [[],[0],[],[2],[2,3],[2,3,4],[2,3,4,5],[0,1,2,3,4,5,6],[0,1,2,3,4,5,6,7],[0,1,2,3,4,5,6,7,8]] [[(3,none)],[(14,some 0),(3,none)],[(3,none)],[(16,some 2),(3,none)],[(17,some 3)],[(18,some 4),(3,none)],[(19,some 5)],[(15,some 1),(20,some 6)],[(3,none)],[(22,some 8),(21,some 7)]] (by decide +kernel) (by decide) (
     rc rfl rfl (xFa rfl wz (zE rfl))<|rc rfl rfl (xLc (sb:=3) (.head _) rfl rfl rfl kT28 (tp rfl) rfl)<|rc rfl rfl (xFa rfl wz (zE rfl))<|rc rfl rfl (xLc (sb:=3) (.head _) rfl rfl rfl kT28 (tp rfl) rfl)<|rc rfl rfl (xIa (g:=g29) rfl kS28 (tp rfl) cI rfl (λ h=>hA29 h rfl) p30)<|rc rfl rfl (xLf (sb:=3) (((PV.root.box rfl).fld owTree.f0).row (.head _) rfl (λ h=>hA29 h rfl) p30) rfl kT94 (tp rfl) rfl)<|rc rfl rfl (ya (opds:=[.tmp 19]) rfl kS28 kY28 rfl rfl (by decide) (.cons (tp rfl) .nil))<|.nil) [15,20] rfl [(0,4),(2,7),(3,8)] rfl ⟨iI,⟨iI,⟨iI,trivial⟩⟩⟩ (λ a32 w32 st32=>?_)
    refine st32.mvG (s:=15) (sb:=3) 8 1 ((PV.root.box rfl).fld owTree.f0) (.head _) rfl (qy rfl rfl) rfl (by simp) (by simp) (by decide) rfl iI [20] rfl [0,2] rfl rfl rfl rfl (λ G34 H34 st34=>?_)
    have st35:=st34.gs (Gs':=[oneB none,H34,oneB none,oneB none,G19,oneB none,oneB none,(oneB (some b1)),G34]) rfl
    refine st35.tipR (s:=15) 1 rfl rfl (by simp) iI [0,2,3] rfl rfl (λ g36 st36=>?_)
    obtain⟨v38,p38,h39⟩:=bs h31
    refine st36.app 1 rfl rfl kE28 rfl rfl rfl wi p38 [] rfl [0,2,3] rfl rfl (λ g37 M37 a37 w37 st37=>?_)
    have st40:=st37.gs (Gs':=[oneB none,oneB g37,oneB none,oneB none,G19,oneB none,oneB none,(oneB (some b1)),G34]) rfl
    refine st40.seg 1 (
     sc rfl (xFa rfl wz (opd_hl rfl))<|.nil) [22] rfl [(0,4),(2,7),(3,8),(21,1)] rfl ⟨iI,⟨iI,⟨iI,⟨iI,trivial⟩⟩⟩⟩ (λ a41 w41 st41=>?_)
    have st43:=st41.tipW (s:=21) 1 rfl rfl iI [0,2,3] rfl
    refine st43.stH (sb:=3) (tv:=21) 8 1 rfl rfl rfl kT28 (by simp) (by simp) (by decide) (tp rfl) rfl rfl iI iI [] rfl [0,2] rfl rfl rfl (λ G42 w42 st42=>?_)
    have st44:=st42.gs (Gs':=[oneB none,oneB none,oneB none,oneB none,G19,oneB none,oneB none,(oneB (some b1)),G42]) rfl
    refine wpList_nil (zk ?_)
    have st45:=st44.unm (s:=2) 7 rfl rfl iI [0,3] rfl
    have st46:=st45.unm (s:=3) 8 rfl rfl iI [0,2] rfl
    refine za ?_
    obtain rfl:=Option.some.inj h39
    exact⟨_,_,_,_,_,_,_,_,_,_,st46.sel [] rfl [(0,4),(2,7),(3,8)] rfl ⟨iI,⟨iI,⟨iI,trivial⟩⟩⟩⟩
   ·
    refine st23.sq (sc rfl (oCI rfl (tp rfl) cI)<|sc rfl (oA rfl (tp rfl))<|.nil) [11,23] rfl [(0,4),(2,7),(3,8)] rfl ⟨iI,⟨iI,⟨iI,trivial⟩⟩⟩ (λ a48 w48 st48=>?_)
    refine st48.cs (c:=23) rfl h25 (λ c49 h49=>?_) (λ c50 h50=>?_)
    ·
     refine st48.hdR (s:=3) 8 true (λ _=>((PV.root.box rfl).fld owTree.f0)) rfl rfl iI [0,2] rfl (λ g51 A51 c51 hA51 st51=>?_)
     refine st51.held (λ w=>w.cell? ⟨b8,0,none⟩=some (.slice A51 (v5.2.files.length) c51)) zR (λ w52 st52=>?_)
     refine st52.tk (i:=0) rfl rfl (by decide +kernel) (by decide +kernel) (by decide +kernel) (λ _ _ _ h=>h) (st52.cellS (sb:=3) rfl (.head _) rfl rfl) (yFa rfl wz (st52.st.has 3 _ rfl).1) (λ a53 st53=>?_)
     refine st53.tk (i:=1) rfl rfl (by decide +kernel) (by decide +kernel) (by decide +kernel) (λ _ _ _ h=>h) (st53.cellS (sb:=3) rfl (.head _) rfl rfl) (yLd rfl kT28 (st53.st.has 25 _ rfl) (λ _ h=>h)) (λ a54 st54=>?_)
     refine st54.tkN (i:=2) (sb:=0) rfl rfl (by decide +kernel) (by decide +kernel) (by decide +kernel) (λ _ _ _ _ h=>h) (st54.cellS (sb:=3) rfl (.head _) rfl rfl) rfl rfl rfl (λ a55 st55=>?_)
     refine st55.mvN (s:=26) (sb:=3) 8 2 ((PV.root.box rfl).fld owTree.f0) (.head _) rfl (qy rfl rfl) rfl rfl (by simp) (by simp) (by decide) rfl iI [11,23,25,27] rfl [0,2] rfl rfl rfl rfl (by decide) (λ G56 H56 st56=>?_)
     obtain⟨v59,p59,h66⟩:=bs h49
     obtain⟨v62,p62,h67⟩:=bs h66
     refine aH1 (i:=3) (by decide +kernel) rfl ?_
     refine st56.seg 1 (sc rfl (ya (opds:=[.const (.int .i64 (-1)),.const (.int .i64 3)]) rfl kS25 kY25 rfl rfl (by decide) (.cons cI (.cons cI .nil)))<|.nil) [27,28] rfl [(0,4),(2,7),(3,8),(26,2)] rfl ⟨iI,⟨iI,⟨iI,⟨iI,trivial⟩⟩⟩⟩ (λ a68 w68 st68=>?_)
     refine aHN (st68.hkS (sb:=3) rfl) ?_
     refine aH1 (i:=4) (by decide +kernel) rfl ?_
     refine st68.cSF (l:=[.tmp 28]) 4 (st68.bkN (s:=0) rfl iI) rfl rfl kN158 (Eq.trans (st68.st.has 27 _ rfl) (st68.st.has 0 _ rfl).1.symm) (by simp) (.cons (tp rfl) .nil) (yM p59) [] rfl [2,3,26] rfl rfl (by decide) (λ G69 M69 a69 w69 st69=>?_)
     have st70:=st69.gs (Gs':=[oneB none,oneB none,H56,oneB none,G69,oneB none,oneB none,(oneB (some b1)),G56]) rfl
     refine aHN (st70.hkS (sb:=3) rfl) ?_
     refine aH1 (i:=5) (by decide +kernel) rfl ?_
     refine st70.seg 1 (sc rfl (xIaN rfl kS28 rfl cI (λ h=>hA51 h rfl) p62)<|.nil) [29,30] rfl [(0,4),(2,7),(3,8),(26,2)] rfl ⟨iI,⟨iI,⟨iI,⟨iI,trivial⟩⟩⟩⟩ (λ a71 w71 st71=>?_)
     refine aHN (st71.hkS (sb:=3) rfl) ?_
     refine aH1 (i:=6) (by decide +kernel) rfl ?_
     refine st71.seg 1 (sc rfl (xFa rfl kF94_0 (tp rfl))<|.nil) [29,31] rfl [(0,4),(2,7),(3,8),(26,2)] rfl ⟨iI,⟨iI,⟨iI,⟨iI,trivial⟩⟩⟩⟩ (λ a72 w72 st72=>?_)
     refine aHN (st72.hkS (sb:=3) rfl) ?_
     refine aH1 (i:=7) (by decide +kernel) rfl ?_
     refine st72.stF (sb:=26) 2 ((PV.root.row rfl (λ h=>hA51 h rfl) p62).fld owFile.f0) rfl rfl rfl kT3 (by simp) (tp rfl) (tp rfl) rfl rfl iI [] rfl [0,2,3] rfl rfl (λ w73 st73=>?_)
     refine aHN (st73.hkS (sb:=3) rfl) ?_
     refine aH0 (by decide +kernel) ?_
     refine st73.stG (s:=26) (sb:=3) 8 2 rfl (by simp) (by simp) (by decide) rfl rfl iI iI [] rfl [0,2] rfl rfl rfl (λ G74 st74=>?_)
     have st75:=st74.gs (Gs':=[oneB none,oneB none,oneB none,oneB none,G69,oneB none,oneB none,(oneB (some b1)),G74]) rfl
     refine zk ?_
     have st76:=st75.unm (s:=2) 7 rfl rfl iI [0,3] rfl
     have st77:=st76.unm (s:=3) 8 rfl rfl iI [0,2] rfl
     refine st77.thin (s:=3) (o2:=(Ow.box (owTree (Ow.row 94 (Ow.frz (α:=File)))))) 8 (qX (qW qV)) rfl rfl (by simp) iI [] rfl [0,2] rfl rfl (λ G78 M78 st78=>?_)
     refine za ?_
     obtain rfl:=Option.some.inj h67
     exact⟨_,_,_,_,_,_,_,_,_,_,st78.sel [] rfl [(0,4),(2,7),(3,8)] rfl ⟨iI,⟨iI,⟨iI,trivial⟩⟩⟩⟩
    ·
     refine st48.sq (sc rfl (oCI rfl (tp rfl) cI)<|sc rfl (oA rfl (tp rfl))<|.nil) [11,32] rfl [(0,4),(2,7),(3,8)] rfl ⟨iI,⟨iI,⟨iI,trivial⟩⟩⟩ (λ a79 w79 st79=>?_)
     refine st79.cs (c:=32) rfl h50 (λ c80 h80=>?_) (λ c81 h81=>?_)
     ·
      refine st79.hdR (s:=3) 8 true (λ _=>((PV.root.box rfl).fld owTree.f0)) rfl rfl iI [0,2] rfl (λ g82 A82 c82 hA82 st82=>?_)
      refine st82.held (λ w=>w.cell? ⟨b8,0,none⟩=some (.slice A82 (v5.2.files.length) c82)) zR (λ w83 st83=>?_)
      refine st83.tk (i:=0) rfl rfl (by decide +kernel) (by decide +kernel) (by decide +kernel) (λ _ _ _ h=>h) (st83.cellS (sb:=3) rfl (.head _) rfl rfl) (yFa rfl wz (st83.st.has 3 _ rfl).1) (λ a84 st84=>?_)
      refine st84.tk (i:=1) rfl rfl (by decide +kernel) (by decide +kernel) (by decide +kernel) (λ _ _ _ h=>h) (st84.cellS (sb:=3) rfl (.head _) rfl rfl) (yLd rfl kT28 (st84.st.has 34 _ rfl) (λ _ h=>h)) (λ a85 st85=>?_)
      refine st85.tkN (i:=2) (sb:=0) rfl rfl (by decide +kernel) (by decide +kernel) (by decide +kernel) (λ _ _ _ _ h=>h) (st85.cellS (sb:=3) rfl (.head _) rfl rfl) rfl rfl rfl (λ a86 st86=>?_)
      refine st86.mvN (s:=35) (sb:=3) 8 3 ((PV.root.box rfl).fld owTree.f0) (.head _) rfl (qy rfl rfl) rfl rfl (by simp) (by simp) (by decide) rfl iI [11,32,34,36] rfl [0,2] rfl rfl rfl rfl (by decide) (λ G87 H87 st87=>?_)
      obtain⟨v90,p90,h97⟩:=bs h80
      obtain⟨v93,p93,h98⟩:=bs h97
      refine aH1 (i:=3) (by decide +kernel) rfl ?_
      refine st87.seg 1 (sc rfl (ya (opds:=[.const (.int .i64 (-1)),.const (.int .i64 100)]) rfl kS25 kY25 rfl rfl (by decide) (.cons cI (.cons cI .nil)))<|.nil) [36,37] rfl [(0,4),(2,7),(3,8),(35,3)] rfl ⟨iI,⟨iI,⟨iI,⟨iI,trivial⟩⟩⟩⟩ (λ a99 w99 st99=>?_)
      refine aHN (st99.hkS (sb:=3) rfl) ?_
      refine aH1 (i:=4) (by decide +kernel) rfl ?_
      refine st99.cSF (l:=[.tmp 37]) 4 (st99.bkN (s:=0) rfl iI) rfl rfl kN158 (Eq.trans (st99.st.has 36 _ rfl) (st99.st.has 0 _ rfl).1.symm) (by simp) (.cons (tp rfl) .nil) (yM p90) [] rfl [2,3,35] rfl rfl (by decide) (λ G100 M100 a100 w100 st100=>?_)
      have st101:=st100.gs (Gs':=[oneB none,oneB none,oneB none,H87,G100,oneB none,oneB none,(oneB (some b1)),G87]) rfl
      refine aHN (st101.hkS (sb:=3) rfl) ?_
      refine aH1 (i:=5) (by decide +kernel) rfl ?_
      refine st101.seg 1 (sc rfl (xIaN rfl kS28 rfl cI (λ h=>hA82 h rfl) p93)<|.nil) [38,39] rfl [(0,4),(2,7),(3,8),(35,3)] rfl ⟨iI,⟨iI,⟨iI,⟨iI,trivial⟩⟩⟩⟩ (λ a102 w102 st102=>?_)
      refine aHN (st102.hkS (sb:=3) rfl) ?_
      refine aH1 (i:=6) (by decide +kernel) rfl ?_
      refine st102.seg 1 (sc rfl (xFa rfl kF94_4 (tp rfl))<|.nil) [38,40] rfl [(0,4),(2,7),(3,8),(35,3)] rfl ⟨iI,⟨iI,⟨iI,⟨iI,trivial⟩⟩⟩⟩ (λ a103 w103 st103=>?_)
      refine aHN (st103.hkS (sb:=3) rfl) ?_
      refine aH1 (i:=7) (by decide +kernel) rfl ?_
      refine st103.stF (sb:=35) 3 ((PV.root.row rfl (λ h=>hA82 h rfl) p93).fld owFile.f4) rfl rfl rfl kT3 (by simp) (tp rfl) (tp rfl) rfl rfl iI [] rfl [0,2,3] rfl rfl (λ w104 st104=>?_)
      refine aHN (st104.hkS (sb:=3) rfl) ?_
      refine aH0 (by decide +kernel) ?_
      refine st104.stG (s:=35) (sb:=3) 8 3 rfl (by simp) (by simp) (by decide) rfl rfl iI iI [] rfl [0,2] rfl rfl rfl (λ G105 st105=>?_)
      have st106:=st105.gs (Gs':=[oneB none,oneB none,oneB none,oneB none,G100,oneB none,oneB none,(oneB (some b1)),G105]) rfl
      refine zk ?_
      have st107:=st106.unm (s:=2) 7 rfl rfl iI [0,3] rfl
      have st108:=st107.unm (s:=3) 8 rfl rfl iI [0,2] rfl
      refine st108.thin (s:=3) (o2:=(Ow.box (owTree (Ow.row 94 (Ow.frz (α:=File)))))) 8 (qX (qW qV)) rfl rfl (by simp) iI [] rfl [0,2] rfl rfl (λ G109 M109 st109=>?_)
      refine za ?_
      obtain rfl:=Option.some.inj h98
      exact⟨_,_,_,_,_,_,_,_,_,_,st109.sel [] rfl [(0,4),(2,7),(3,8)] rfl ⟨iI,⟨iI,⟨iI,trivial⟩⟩⟩⟩
     ·
      refine st79.sq (sc rfl (oCI rfl (tp rfl) cI)<|sc rfl (oA rfl (tp rfl))<|.nil) [41] rfl [(0,4),(2,7),(3,8)] rfl ⟨iI,⟨iI,⟨iI,trivial⟩⟩⟩ (λ a110 w110 st110=>?_)
      refine st110.cs (c:=41) rfl h81 (λ c111 h111=>?_) (λ c112 h112=>?_)
      ·
       refine st110.hdR (s:=3) 8 true (λ _=>((PV.root.box rfl).fld owTree.f0)) rfl rfl iI [0,2] rfl (λ g113 A113 c113 hA113 st113=>?_)
       refine st113.held (λ w=>w.cell? ⟨b8,0,none⟩=some (.slice A113 (v5.2.files.length) c113)) zR (λ w114 st114=>?_)
       refine st114.tk (i:=0) rfl rfl (by decide +kernel) (by decide +kernel) (by decide +kernel) (λ _ _ _ h=>h) (st114.cellS (sb:=3) rfl (.head _) rfl rfl) (yFa rfl wz (st114.st.has 3 _ rfl).1) (λ a115 st115=>?_)
       refine st115.tk (i:=1) rfl rfl (by decide +kernel) (by decide +kernel) (by decide +kernel) (λ _ _ _ h=>h) (st115.cellS (sb:=3) rfl (.head _) rfl rfl) (yLd rfl kT28 (st115.st.has 43 _ rfl) (λ _ h=>h)) (λ a116 st116=>?_)
       refine st116.tk (i:=2) rfl rfl (by decide +kernel) (by decide +kernel) (by decide +kernel) (λ _ _ _ h=>h) (st116.cellS (sb:=3) rfl (.head _) rfl rfl) (yFa rfl wz (st116.st.has 3 _ rfl).1) (λ a117 st117=>?_)
       refine st117.tk (i:=3) rfl rfl (by decide +kernel) (by decide +kernel) (by decide +kernel) (λ _ _ _ h=>h) (st117.cellS (sb:=3) rfl (.head _) rfl rfl) (yLd rfl kT28 (st117.st.has 45 _ rfl) (λ _ h=>h)) (λ a118 st118=>?_)
       refine st118.tkB (i:=7) (parts:=[(0,.const (.int .i64 9))]) (ns:=[1,1,1,1,1]) (zs:=Ze) rfl rfl (by decide +kernel) (by decide +kernel) (by decide +kernel) (λ _ _ _ _ h=>h) (st118.cellS (sb:=3) rfl (.head _) rfl rfl) rfl rfl Xj Xk (λ w a hl=>by
 intro p hp;simp only[List.mem_cons,List.not_mem_nil,or_false] at hp
 rcases hp with rfl
 ·
  exact⟨by decide,rfl⟩) (λ w a hl=>Stmt.parts (x:=(⟨(9:Int),⟨[]⟩,0,⟨[]⟩,0⟩:Stmt)) (OpdR.cells cI hl) yS ⟨rfl,trivial⟩ yS ⟨rfl,trivial⟩) (λ a119 st119=>?_)
       refine st119.mvN (s:=46) (sb:=3) 8 5 ((PV.root.box rfl).fld owTree.f0) (.head _) rfl (qy rfl rfl) rfl rfl (by simp) (by simp) (by decide) rfl iI [41,43,44,45,50] rfl [0,2] rfl rfl rfl rfl (by decide) (λ G120 H120 st120=>?_)
       obtain⟨v121,p121,h141⟩:=bs h111
       obtain⟨v132,p132,h142⟩:=bs h141
       obtain⟨v135,p135,h143⟩:=bs h142
       refine aH2 (i:=4) (j:=8) (by decide +kernel) rfl rfl ?_ ?_
       ·
        refine st120.seg 1 (sc rfl (xIaN rfl kS28 rfl cI (λ h=>hA113 h rfl) p121)<|.nil) [44,47,50] rfl [(0,4),(2,7),(3,8),(46,5)] rfl ⟨iI,⟨iI,⟨iI,⟨iI,trivial⟩⟩⟩⟩ (λ a144 w144 st144=>?_)
        refine aHN (st144.hkS (sb:=3) rfl) ?_
        refine aH2 (i:=5) (j:=8) (by decide +kernel) rfl rfl ?_ ?_
        ·
         refine st144.seg 1 (sc rfl (xFa rfl Yb (tp rfl))<|.nil) [44,48,50] rfl [(0,4),(2,7),(3,8),(46,5)] rfl ⟨iI,⟨iI,⟨iI,⟨iI,trivial⟩⟩⟩⟩ (λ a145 w145 st145=>?_)
         refine aHN (st145.hkS (sb:=3) rfl) ?_
         refine aH2 (i:=6) (j:=8) (by decide +kernel) rfl rfl ?_ ?_
         ·
          refine st145.hdR (s:=46) 5 true (λ _=>((PV.root.row rfl (λ h=>hA113 h rfl) p121).fld owFile.f5)) rfl rfl iI [0,2,3] rfl (λ g146 A146 c146 hA146 st146=>?_)
          refine st146.seg 1 (sc rfl (xLc (sb:=46) (.head _) rfl rfl rfl kT92 (tp rfl) rfl)<|.nil) [44,49,50] rfl [(0,4),(2,7),(3,8),(46,5)] rfl ⟨iI,⟨iI,⟨iI,⟨iI,trivial⟩⟩⟩⟩ (λ a147 w147 st147=>?_)
          refine aHN (st147.hkS (sb:=3) rfl) ?_
          refine aH1 (i:=8) (by decide +kernel) rfl ?_
          refine st147.seg 1 (sc rfl (ya (opds:=[.tmp 50]) rfl kS92 kY92 rfl rfl (by decide) (.cons (tp rfl) .nil))<|.nil) [44,49,51] rfl [(0,4),(2,7),(3,8),(46,5)] rfl ⟨iI,⟨iI,⟨iI,⟨iI,trivial⟩⟩⟩⟩ (λ a148 w148 st148=>?_)
          refine aHN (st148.hkS (sb:=3) rfl) ?_
          refine aH1 (i:=9) (by decide +kernel) rfl ?_
          refine st148.mvG (s:=49) (sb:=46) 5 6 ((PV.root.row rfl (λ h=>hA113 h rfl) p121).fld owFile.f5) (.head _) rfl (qy rfl rfl) rfl (by simp) (by simp) (by decide) rfl iI [44,51] rfl [0,2,3] rfl rfl rfl rfl (λ G150 H150 st150=>?_)
          have st151:=st150.gs (Gs':=[oneB none,oneB none,oneB none,oneB none,G19,G150,H150,(oneB (some b1)),G120]) rfl
          refine st151.tipR (s:=49) 6 rfl rfl (by simp) iI [0,2,3,46] rfl rfl (λ g152 st152=>?_)
          refine st152.app 6 rfl rfl kE92 rfl rfl rfl wi p132 [44] rfl [0,2,3,46] rfl rfl (λ g153 M153 a153 w153 st153=>?_)
          have st154:=st153.gs (Gs':=[oneB none,oneB none,oneB none,oneB none,G19,G150,oneB g153,(oneB (some b1)),G120]) rfl
          refine aHN (st154.hkS (sb:=3) rfl) ?_
          refine aH1 (i:=10) (by decide +kernel) rfl ?_
          refine st154.seg 1 (sc rfl (xIa (g:=g113) rfl kS28 (tp rfl) cI rfl (λ h=>hA113 h rfl) p135)<|.nil) [53] rfl [(0,4),(2,7),(3,8),(46,5),(52,6)] rfl ⟨iI,⟨iI,⟨iI,⟨iI,⟨iI,trivial⟩⟩⟩⟩⟩ (λ a155 w155 st155=>?_)
          refine aHN (st155.hkS (sb:=3) rfl) ?_
          refine aH1 (i:=11) (by decide +kernel) rfl ?_
          refine st155.seg 1 (sc rfl (xFa rfl Yb (tp rfl))<|.nil) [54] rfl [(0,4),(2,7),(3,8),(46,5),(52,6)] rfl ⟨iI,⟨iI,⟨iI,⟨iI,⟨iI,trivial⟩⟩⟩⟩⟩ (λ a156 w156 st156=>?_)
          refine aHN (st156.hkS (sb:=3) rfl) ?_
          refine aH1 (i:=12) (by decide +kernel) rfl ?_
          have st158:=st156.tipW (s:=52) 6 rfl rfl iI [0,2,3,46] rfl
          refine st158.stH (sb:=46) (tv:=52) 5 6 rfl rfl rfl kT92 (by simp) (by simp) (by decide) (tp rfl) rfl rfl iI iI [] rfl [0,2,3] rfl rfl rfl (λ G157 w157 st157=>?_)
          have st159:=st157.gs (Gs':=[oneB none,oneB none,oneB none,oneB none,G19,G157,oneB none,(oneB (some b1)),G120]) rfl
          refine aHN (st159.hkS (sb:=3) rfl) ?_
          refine aH0 (by decide +kernel) ?_
          refine st159.stG (s:=46) (sb:=3) 8 5 rfl (by simp) (by simp) (by decide) rfl rfl iI iI [] rfl [0,2] rfl rfl rfl (λ G160 st160=>?_)
          have st161:=st160.gs (Gs':=[oneB none,oneB none,oneB none,oneB none,G19,oneB none,oneB none,(oneB (some b1)),G160]) rfl
          refine zk ?_
          have st162:=st161.unm (s:=2) 7 rfl rfl iI [0,3] rfl
          have st163:=st162.unm (s:=3) 8 rfl rfl iI [0,2] rfl
          refine st163.thin (s:=3) (o2:=(Ow.box (owTree (Ow.row 94 (Ow.frz (α:=File)))))) 8 (qX (qW qV)) rfl rfl (by simp) iI [] rfl [0,2] rfl rfl (λ G164 M164 st164=>?_)
          refine za ?_
          obtain rfl:=Option.some.inj h143
          exact⟨_,_,_,_,_,_,_,_,_,_,st164.sel [] rfl [(0,4),(2,7),(3,8)] rfl ⟨iI,⟨iI,⟨iI,trivial⟩⟩⟩⟩
         ·
          refine st145.seg 1 (sc rfl (ya (opds:=[.tmp 50]) rfl kS92 kY92 rfl rfl (by decide) (.cons (tp rfl) .nil))<|.nil) [44,48,51] rfl [(0,4),(2,7),(3,8),(46,5)] rfl ⟨iI,⟨iI,⟨iI,⟨iI,trivial⟩⟩⟩⟩ (λ a165 w165 st165=>?_)
          refine aHN (st165.hkS (sb:=3) rfl) ?_
          refine aH1 (i:=6) (by decide +kernel) rfl ?_
          refine st165.hdR (s:=46) 5 true (λ _=>((PV.root.row rfl (λ h=>hA113 h rfl) p121).fld owFile.f5)) rfl rfl iI [0,2,3] rfl (λ g166 A166 c166 hA166 st166=>?_)
          refine st166.seg 1 (sc rfl (xLc (sb:=46) (.head _) rfl rfl rfl kT92 (tp rfl) rfl)<|.nil) [44,49,51] rfl [(0,4),(2,7),(3,8),(46,5)] rfl ⟨iI,⟨iI,⟨iI,⟨iI,trivial⟩⟩⟩⟩ (λ a167 w167 st167=>?_)
          refine aHN (st167.hkS (sb:=3) rfl) ?_
          refine aH1 (i:=9) (by decide +kernel) rfl ?_
          refine st167.mvG (s:=49) (sb:=46) 5 6 ((PV.root.row rfl (λ h=>hA113 h rfl) p121).fld owFile.f5) (.head _) rfl (qy rfl rfl) rfl (by simp) (by simp) (by decide) rfl iI [44,51] rfl [0,2,3] rfl rfl rfl rfl (λ G169 H169 st169=>?_)
          have st170:=st169.gs (Gs':=[oneB none,oneB none,oneB none,oneB none,G19,G169,H169,(oneB (some b1)),G120]) rfl
          refine st170.tipR (s:=49) 6 rfl rfl (by simp) iI [0,2,3,46] rfl rfl (λ g171 st171=>?_)
          refine st171.app 6 rfl rfl kE92 rfl rfl rfl wi p132 [44] rfl [0,2,3,46] rfl rfl (λ g172 M172 a172 w172 st172=>?_)
          have st173:=st172.gs (Gs':=[oneB none,oneB none,oneB none,oneB none,G19,G169,oneB g172,(oneB (some b1)),G120]) rfl
          refine aHN (st173.hkS (sb:=3) rfl) ?_
          refine aH1 (i:=10) (by decide +kernel) rfl ?_
          refine st173.seg 1 (sc rfl (xIa (g:=g113) rfl kS28 (tp rfl) cI rfl (λ h=>hA113 h rfl) p135)<|.nil) [53] rfl [(0,4),(2,7),(3,8),(46,5),(52,6)] rfl ⟨iI,⟨iI,⟨iI,⟨iI,⟨iI,trivial⟩⟩⟩⟩⟩ (λ a174 w174 st174=>?_)
          refine aHN (st174.hkS (sb:=3) rfl) ?_
          refine aH1 (i:=11) (by decide +kernel) rfl ?_
          refine st174.seg 1 (sc rfl (xFa rfl Yb (tp rfl))<|.nil) [54] rfl [(0,4),(2,7),(3,8),(46,5),(52,6)] rfl ⟨iI,⟨iI,⟨iI,⟨iI,⟨iI,trivial⟩⟩⟩⟩⟩ (λ a175 w175 st175=>?_)
          refine aHN (st175.hkS (sb:=3) rfl) ?_
          refine aH1 (i:=12) (by decide +kernel) rfl ?_
          have st177:=st175.tipW (s:=52) 6 rfl rfl iI [0,2,3,46] rfl
          refine st177.stH (sb:=46) (tv:=52) 5 6 rfl rfl rfl kT92 (by simp) (by simp) (by decide) (tp rfl) rfl rfl iI iI [] rfl [0,2,3] rfl rfl rfl (λ G176 w176 st176=>?_)
          have st178:=st176.gs (Gs':=[oneB none,oneB none,oneB none,oneB none,G19,G176,oneB none,(oneB (some b1)),G120]) rfl
          refine aHN (st178.hkS (sb:=3) rfl) ?_
          refine aH0 (by decide +kernel) ?_
          refine st178.stG (s:=46) (sb:=3) 8 5 rfl (by simp) (by simp) (by decide) rfl rfl iI iI [] rfl [0,2] rfl rfl rfl (λ G179 st179=>?_)
          have st180:=st179.gs (Gs':=[oneB none,oneB none,oneB none,oneB none,G19,oneB none,oneB none,(oneB (some b1)),G179]) rfl
          refine zk ?_
          have st181:=st180.unm (s:=2) 7 rfl rfl iI [0,3] rfl
          have st182:=st181.unm (s:=3) 8 rfl rfl iI [0,2] rfl
          refine st182.thin (s:=3) (o2:=(Ow.box (owTree (Ow.row 94 (Ow.frz (α:=File)))))) 8 (qX (qW qV)) rfl rfl (by simp) iI [] rfl [0,2] rfl rfl (λ G183 M183 st183=>?_)
          refine za ?_
          obtain rfl:=Option.some.inj h143
          exact⟨_,_,_,_,_,_,_,_,_,_,st183.sel [] rfl [(0,4),(2,7),(3,8)] rfl ⟨iI,⟨iI,⟨iI,trivial⟩⟩⟩⟩
        ·
         refine st144.seg 1 (sc rfl (ya (opds:=[.tmp 50]) rfl kS92 kY92 rfl rfl (by decide) (.cons (tp rfl) .nil))<|.nil) [44,47,51] rfl [(0,4),(2,7),(3,8),(46,5)] rfl ⟨iI,⟨iI,⟨iI,⟨iI,trivial⟩⟩⟩⟩ (λ a184 w184 st184=>?_)
         refine aHN (st184.hkS (sb:=3) rfl) ?_
         refine aH1 (i:=5) (by decide +kernel) rfl ?_
         refine st184.seg 1 (sc rfl (xFa rfl Yb (tp rfl))<|.nil) [44,48,51] rfl [(0,4),(2,7),(3,8),(46,5)] rfl ⟨iI,⟨iI,⟨iI,⟨iI,trivial⟩⟩⟩⟩ (λ a185 w185 st185=>?_)
         refine aHN (st185.hkS (sb:=3) rfl) ?_
         refine aH1 (i:=6) (by decide +kernel) rfl ?_
         refine st185.hdR (s:=46) 5 true (λ _=>((PV.root.row rfl (λ h=>hA113 h rfl) p121).fld owFile.f5)) rfl rfl iI [0,2,3] rfl (λ g186 A186 c186 hA186 st186=>?_)
         refine st186.seg 1 (sc rfl (xLc (sb:=46) (.head _) rfl rfl rfl kT92 (tp rfl) rfl)<|.nil) [44,49,51] rfl [(0,4),(2,7),(3,8),(46,5)] rfl ⟨iI,⟨iI,⟨iI,⟨iI,trivial⟩⟩⟩⟩ (λ a187 w187 st187=>?_)
         refine aHN (st187.hkS (sb:=3) rfl) ?_
         refine aH1 (i:=9) (by decide +kernel) rfl ?_
         refine st187.mvG (s:=49) (sb:=46) 5 6 ((PV.root.row rfl (λ h=>hA113 h rfl) p121).fld owFile.f5) (.head _) rfl (qy rfl rfl) rfl (by simp) (by simp) (by decide) rfl iI [44,51] rfl [0,2,3] rfl rfl rfl rfl (λ G189 H189 st189=>?_)
         have st190:=st189.gs (Gs':=[oneB none,oneB none,oneB none,oneB none,G19,G189,H189,(oneB (some b1)),G120]) rfl
         refine st190.tipR (s:=49) 6 rfl rfl (by simp) iI [0,2,3,46] rfl rfl (λ g191 st191=>?_)
         refine st191.app 6 rfl rfl kE92 rfl rfl rfl wi p132 [44] rfl [0,2,3,46] rfl rfl (λ g192 M192 a192 w192 st192=>?_)
         have st193:=st192.gs (Gs':=[oneB none,oneB none,oneB none,oneB none,G19,G189,oneB g192,(oneB (some b1)),G120]) rfl
         refine aHN (st193.hkS (sb:=3) rfl) ?_
         refine aH1 (i:=10) (by decide +kernel) rfl ?_
         refine st193.seg 1 (sc rfl (xIa (g:=g113) rfl kS28 (tp rfl) cI rfl (λ h=>hA113 h rfl) p135)<|.nil) [53] rfl [(0,4),(2,7),(3,8),(46,5),(52,6)] rfl ⟨iI,⟨iI,⟨iI,⟨iI,⟨iI,trivial⟩⟩⟩⟩⟩ (λ a194 w194 st194=>?_)
         refine aHN (st194.hkS (sb:=3) rfl) ?_
         refine aH1 (i:=11) (by decide +kernel) rfl ?_
         refine st194.seg 1 (sc rfl (xFa rfl Yb (tp rfl))<|.nil) [54] rfl [(0,4),(2,7),(3,8),(46,5),(52,6)] rfl ⟨iI,⟨iI,⟨iI,⟨iI,⟨iI,trivial⟩⟩⟩⟩⟩ (λ a195 w195 st195=>?_)
         refine aHN (st195.hkS (sb:=3) rfl) ?_
         refine aH1 (i:=12) (by decide +kernel) rfl ?_
         have st197:=st195.tipW (s:=52) 6 rfl rfl iI [0,2,3,46] rfl
         refine st197.stH (sb:=46) (tv:=52) 5 6 rfl rfl rfl kT92 (by simp) (by simp) (by decide) (tp rfl) rfl rfl iI iI [] rfl [0,2,3] rfl rfl rfl (λ G196 w196 st196=>?_)
         have st198:=st196.gs (Gs':=[oneB none,oneB none,oneB none,oneB none,G19,G196,oneB none,(oneB (some b1)),G120]) rfl
         refine aHN (st198.hkS (sb:=3) rfl) ?_
         refine aH0 (by decide +kernel) ?_
         refine st198.stG (s:=46) (sb:=3) 8 5 rfl (by simp) (by simp) (by decide) rfl rfl iI iI [] rfl [0,2] rfl rfl rfl (λ G199 st199=>?_)
         have st200:=st199.gs (Gs':=[oneB none,oneB none,oneB none,oneB none,G19,oneB none,oneB none,(oneB (some b1)),G199]) rfl
         refine zk ?_
         have st201:=st200.unm (s:=2) 7 rfl rfl iI [0,3] rfl
         have st202:=st201.unm (s:=3) 8 rfl rfl iI [0,2] rfl
         refine st202.thin (s:=3) (o2:=(Ow.box (owTree (Ow.row 94 (Ow.frz (α:=File)))))) 8 (qX (qW qV)) rfl rfl (by simp) iI [] rfl [0,2] rfl rfl (λ G203 M203 st203=>?_)
         refine za ?_
         obtain rfl:=Option.some.inj h143
         exact⟨_,_,_,_,_,_,_,_,_,_,st203.sel [] rfl [(0,4),(2,7),(3,8)] rfl ⟨iI,⟨iI,⟨iI,trivial⟩⟩⟩⟩
       ·
        refine st120.seg 1 (sc rfl (ya (opds:=[.tmp 50]) rfl kS92 kY92 rfl rfl (by decide) (.cons (tp rfl) .nil))<|.nil) [44,51] rfl [(0,4),(2,7),(3,8),(46,5)] rfl ⟨iI,⟨iI,⟨iI,⟨iI,trivial⟩⟩⟩⟩ (λ a204 w204 st204=>?_)
        refine aHN (st204.hkS (sb:=3) rfl) ?_
        refine aH1 (i:=4) (by decide +kernel) rfl ?_
        refine st204.seg 1 (sc rfl (xIaN rfl kS28 rfl cI (λ h=>hA113 h rfl) p121)<|.nil) [44,47,51] rfl [(0,4),(2,7),(3,8),(46,5)] rfl ⟨iI,⟨iI,⟨iI,⟨iI,trivial⟩⟩⟩⟩ (λ a205 w205 st205=>?_)
        refine aHN (st205.hkS (sb:=3) rfl) ?_
        refine aH1 (i:=5) (by decide +kernel) rfl ?_
        refine st205.seg 1 (sc rfl (xFa rfl Yb (tp rfl))<|.nil) [44,48,51] rfl [(0,4),(2,7),(3,8),(46,5)] rfl ⟨iI,⟨iI,⟨iI,⟨iI,trivial⟩⟩⟩⟩ (λ a206 w206 st206=>?_)
        refine aHN (st206.hkS (sb:=3) rfl) ?_
        refine aH1 (i:=6) (by decide +kernel) rfl ?_
        refine st206.hdR (s:=46) 5 true (λ _=>((PV.root.row rfl (λ h=>hA113 h rfl) p121).fld owFile.f5)) rfl rfl iI [0,2,3] rfl (λ g207 A207 c207 hA207 st207=>?_)
        refine st207.seg 1 (sc rfl (xLc (sb:=46) (.head _) rfl rfl rfl kT92 (tp rfl) rfl)<|.nil) [44,49,51] rfl [(0,4),(2,7),(3,8),(46,5)] rfl ⟨iI,⟨iI,⟨iI,⟨iI,trivial⟩⟩⟩⟩ (λ a208 w208 st208=>?_)
        refine aHN (st208.hkS (sb:=3) rfl) ?_
        refine aH1 (i:=9) (by decide +kernel) rfl ?_
        refine st208.mvG (s:=49) (sb:=46) 5 6 ((PV.root.row rfl (λ h=>hA113 h rfl) p121).fld owFile.f5) (.head _) rfl (qy rfl rfl) rfl (by simp) (by simp) (by decide) rfl iI [44,51] rfl [0,2,3] rfl rfl rfl rfl (λ G210 H210 st210=>?_)
        have st211:=st210.gs (Gs':=[oneB none,oneB none,oneB none,oneB none,G19,G210,H210,(oneB (some b1)),G120]) rfl
        refine st211.tipR (s:=49) 6 rfl rfl (by simp) iI [0,2,3,46] rfl rfl (λ g212 st212=>?_)
        refine st212.app 6 rfl rfl kE92 rfl rfl rfl wi p132 [44] rfl [0,2,3,46] rfl rfl (λ g213 M213 a213 w213 st213=>?_)
        have st214:=st213.gs (Gs':=[oneB none,oneB none,oneB none,oneB none,G19,G210,oneB g213,(oneB (some b1)),G120]) rfl
        refine aHN (st214.hkS (sb:=3) rfl) ?_
        refine aH1 (i:=10) (by decide +kernel) rfl ?_
        refine st214.seg 1 (sc rfl (xIa (g:=g113) rfl kS28 (tp rfl) cI rfl (λ h=>hA113 h rfl) p135)<|.nil) [53] rfl [(0,4),(2,7),(3,8),(46,5),(52,6)] rfl ⟨iI,⟨iI,⟨iI,⟨iI,⟨iI,trivial⟩⟩⟩⟩⟩ (λ a215 w215 st215=>?_)
        refine aHN (st215.hkS (sb:=3) rfl) ?_
        refine aH1 (i:=11) (by decide +kernel) rfl ?_
        refine st215.seg 1 (sc rfl (xFa rfl Yb (tp rfl))<|.nil) [54] rfl [(0,4),(2,7),(3,8),(46,5),(52,6)] rfl ⟨iI,⟨iI,⟨iI,⟨iI,⟨iI,trivial⟩⟩⟩⟩⟩ (λ a216 w216 st216=>?_)
        refine aHN (st216.hkS (sb:=3) rfl) ?_
        refine aH1 (i:=12) (by decide +kernel) rfl ?_
        have st218:=st216.tipW (s:=52) 6 rfl rfl iI [0,2,3,46] rfl
        refine st218.stH (sb:=46) (tv:=52) 5 6 rfl rfl rfl kT92 (by simp) (by simp) (by decide) (tp rfl) rfl rfl iI iI [] rfl [0,2,3] rfl rfl rfl (λ G217 w217 st217=>?_)
        have st219:=st217.gs (Gs':=[oneB none,oneB none,oneB none,oneB none,G19,G217,oneB none,(oneB (some b1)),G120]) rfl
        refine aHN (st219.hkS (sb:=3) rfl) ?_
        refine aH0 (by decide +kernel) ?_
        refine st219.stG (s:=46) (sb:=3) 8 5 rfl (by simp) (by simp) (by decide) rfl rfl iI iI [] rfl [0,2] rfl rfl rfl (λ G220 st220=>?_)
        have st221:=st220.gs (Gs':=[oneB none,oneB none,oneB none,oneB none,G19,oneB none,oneB none,(oneB (some b1)),G220]) rfl
        refine zk ?_
        have st222:=st221.unm (s:=2) 7 rfl rfl iI [0,3] rfl
        have st223:=st222.unm (s:=3) 8 rfl rfl iI [0,2] rfl
        refine st223.thin (s:=3) (o2:=(Ow.box (owTree (Ow.row 94 (Ow.frz (α:=File)))))) 8 (qX (qW qV)) rfl rfl (by simp) iI [] rfl [0,2] rfl rfl (λ G224 M224 st224=>?_)
        refine za ?_
        obtain rfl:=Option.some.inj h143
        exact⟨_,_,_,_,_,_,_,_,_,_,st224.sel [] rfl [(0,4),(2,7),(3,8)] rfl ⟨iI,⟨iI,⟨iI,trivial⟩⟩⟩⟩
      ·
       refine wp_skip (zk ?_)
       have st225:=st110.unm (s:=2) 7 rfl rfl iI [0,3] rfl
       have st226:=st225.unm (s:=3) 8 rfl rfl iI [0,2] rfl
       refine st226.thin (s:=3) (o2:=(Ow.box (owTree (Ow.row 94 (Ow.frz (α:=File)))))) 8 (qX (qW qV)) rfl rfl (by simp) iI [41] rfl [0,2] rfl rfl (λ G227 M227 st227=>?_)
       refine za ?_
       obtain rfl:=Option.some.inj h112
       exact⟨_,_,_,_,_,_,_,_,_,_,st227.sel [] rfl [(0,4),(2,7),(3,8)] rfl ⟨iI,⟨iI,⟨iI,trivial⟩⟩⟩⟩
  ·
   refine wp_skip ?_
   have st228:=st15.unm (s:=2) 7 rfl rfl iI [0,3] rfl
   have st229:=st228.unm (s:=3) 8 rfl rfl iI [0,2] rfl
   refine st229.thin (s:=3) (o2:=(Ow.box (owTree (Ow.row 94 (Ow.frz (α:=File)))))) 8 (qX (qW qV)) rfl rfl (by simp) iI [9] rfl [0,2] rfl rfl (λ G230 M230 st230=>?_)
   refine za ?_
   obtain rfl:=Option.some.inj h17
   exact⟨_,_,_,_,_,_,_,_,_,_,st230.sel [] rfl [(0,4),(2,7),(3,8)] rfl ⟨iI,⟨iI,⟨iI,trivial⟩⟩⟩⟩
 ·
  rintro a12 w12 ⟨M12,q12_0,q12_1,q12_2,q12_3,q12_4,q12_5,q12_6,q12_7,q12_8,st12⟩
  have h231:=k12
  refine wp_seq (wp_region_list ?_)
  refine st12.nmB (s:=3) 8 rfl rfl iI [0,2] rfl (λ b233 st233=>?_)
  refine st233.ldW (sb:=3) 8 rfl rfl kT30 rfl (by simp) iI [] rfl [0,2] rfl rfl (λ a232 w232 st232=>?_)
  refine st232.nmB (s:=2) 7 rfl rfl iI [0,55] rfl (λ b235 st235=>?_)
  refine st235.stO (sb:=2) (tv:=55) 7 8 (PV.root.box rfl) rfl rfl rfl kT30 (by simp) (by simp) (by decide) (zE rfl) rfl rfl rfl iI iI [] rfl [0] rfl rfl rfl (λ G234 w234 st234=>?_)
  have st236:=st234.gs (Gs':=[q12_0,q12_1,q12_2,q12_3,q12_4,q12_5,q12_6,G234,oneB none]) rfl
  refine wpList_nil (za (wp_ret ?_))
  exact st236.rsCO (s:=0) 4 7 rfl kT30 rfl rfl iI iI (by decide) (bxr h231)
open Go.RowKit
set_option maxRecDepth 10000
set_option maxHeartbeats 1600000
theorem kN146:fnB Tryz.prog 146=true:=by kernel_rfl
theorem kN147:fnB Tryz.prog 147=true:=by kernel_rfl
theorem kN149:fnB Tryz.prog 149=true:=by kernel_rfl
theorem kN150:fnB Tryz.prog 150=true:=by kernel_rfl
def qA(x0:Reader):Option (Reader×Tree×(List Int)×Str):=
(j8 x0).bind λ v6=>
(j7 v6.1).bind λ v15=>
(gO (cmpI .gtr (v6.2.files.length:Int) (0:Int) == true) (zz v15.1 (4:Int))).bind λ v22=>
if(cmpI .gtr (v6.2.files.length:Int) (0:Int)&&cmpI .gtr v22.2 (0:Int))=true then((zz (if(cmpI .gtr (v6.2.files.length:Int) (0:Int) == true)=true then v22.1 else v15.1) (v6.2.files.length:Int)).bind λ v41=>
(atI v6.2.files v41.2).bind λ v44=>
(jP v44).bind λ v47=>
some (v41.1,v6.2,v15.2,v47))
else((j6 (if(cmpI .gtr (v6.2.files.length:Int) (0:Int) == true)=true then v22.1 else v15.1)).bind λ v90=>
some (v90.1,v6.2,v15.2,v90.2))
theorem spec_nameOf_w{x0:Reader}{r:Reader×Tree×(List Int)×Str}(h:qA x0=some r):FnS Tryz.prog 80 (Ow.box (Ow.frz (α:=Reader))) ⟨x0⟩ [] ⟨r.1⟩ (.t3 (owTree (Ow.row 94 (Ow.frz (α:=File)))) r.2.1 (dt r.2.2.1) (dt r.2.2.2)):=by
 unfold qA at h
 refine fnSB (fn:=Tryz.f80) 3 6 Tryz.func80 rfl (of_decide_eq_true rfl) rfl (λ M G w0 b0 a0 st0=>?_)
 refine wp_seq (wp_region_list ?_)
 refine st0.alcW (ow:=(owTree (Ow.row 94 (Ow.frz (α:=File))))) 4 rfl rfl kZ30 (owTree.z Ow.row_z) (by simp) [] rfl [0] rfl rfl (λ b1 M1 a1 w1 st1=>?_)
 have st2:=st1.gs (Gs':=[oneB none,oneB none,oneB none,G,(oneB (some b1)),oneB none]) rfl
 refine st2.seg 2 (
  sc rfl (oA rfl (wO (α:=Int)))<|sc rfl (oA rfl (zv (by decide)))<|.nil) [] rfl [(0,3),(2,4)] rfl ⟨iI,⟨iI,trivial⟩⟩ (λ a3 w3 st3=>?_)
 refine wpList_nil (za (wp_seq (wp_region_list ?_)))
 refine st3.seg 1 (
  sc rfl (oM rfl (zE rfl))<|.nil) [7] rfl [(0,3),(2,4)] rfl ⟨iI,⟨iI,trivial⟩⟩ (λ a4 w4 st4=>?_)
 obtain⟨v6,p6,h7⟩:=bs h
 refine st4.cSO (l:=[]) 3 0 (st4.bkN (s:=0) rfl iI) rfl rfl kN146 (Eq.trans (st4.st.has 7 _ rfl) (st4.st.has 0 _ rfl).1.symm) (by simp) (by simp) (by decide) .nil (QG p6) [] rfl [2] rfl rfl rfl rfl (by decide) (λ G5 H5 M5 a5 w5 st5=>?_)
 have st8:=st5.gs (Gs':=[H5,oneB none,oneB none,G5,(oneB (some b1)),oneB none]) rfl
 refine st8.alcW (ow:=(owTree (Ow.row 94 (Ow.frz (α:=File))))) 5 rfl rfl kZ30 (owTree.z Ow.row_z) (by simp) [] rfl [0,2,8] rfl rfl (λ b9 M9 a9 w9 st9=>?_)
 have st10:=st9.gs (Gs':=[H5,oneB none,oneB none,G5,(oneB (some b1)),(oneB (some b9))]) rfl
 refine st10.stO (sb:=5) (tv:=8) 5 0 (PV.root.box rfl) rfl rfl rfl kT30 (by simp) (by simp) (by decide) (zE rfl) rfl rfl rfl iI iI [] rfl [0,2] rfl rfl rfl (λ G11 w11 st11=>?_)
 have st12:=st11.gs (Gs':=[oneB none,oneB none,oneB none,G5,(oneB (some b1)),G11]) rfl
 refine wpList_nil (za (wp_seq (wp_region_list ?_)))
 refine st12.seg 1 (
  sc rfl (oM rfl (zE rfl))<|.nil) [9] rfl [(0,3),(2,4),(5,5)] rfl ⟨iI,⟨iI,⟨iI,trivial⟩⟩⟩ (λ a13 w13 st13=>?_)
 obtain⟨v15,p15,h16⟩:=bs h7
 refine st13.cSF (l:=[]) 3 (st13.bkN (s:=0) rfl iI) rfl rfl kN147 (Eq.trans (st13.st.has 9 _ rfl) (st13.st.has 0 _ rfl).1.symm) (by simp) .nil (QF p15) [] rfl [2,5] rfl rfl (by decide) (λ G14 M14 a14 w14 st14=>?_)
 have st17:=st14.gs (Gs':=[oneB none,oneB none,oneB none,G14,(oneB (some b1)),G11]) rfl
 refine st17.seg 1 (
  sc rfl (oA rfl (tp rfl))<|.nil) [6] rfl [(0,3),(2,4),(5,5)] rfl ⟨iI,⟨iI,⟨iI,trivial⟩⟩⟩ (λ a18 w18 st18=>?_)
 refine wpList_nil (za (wp_seq (wp_seq (wp_region_list ?_))))
 refine st18.hdR (s:=5) 5 true (λ _=>((PV.root.box rfl).fld owTree.f0)) rfl rfl iI [0,2] rfl (λ g19 A19 c19 hA19 st19=>?_)
 refine st19.seg 6 (
  sc rfl (xFa rfl wz (zE rfl))<|sc rfl (xLc (sb:=5) (.head _) rfl rfl rfl kT28 (tp rfl) rfl)<|sc rfl (xLe rfl kL28 (tp rfl))<|sc rfl (oCI rfl (tp rfl) cI)<|sc rfl (oM rfl (tp rfl))<|sg rfl rfl (λ hg=>oM rfl (zE rfl))<|.nil) [6,15,16] rfl [(0,3),(2,4),(5,5)] rfl ⟨iI,⟨iI,⟨iI,trivial⟩⟩⟩ (λ a20 w20 st20=>?_)
 obtain⟨v22,p22,h23⟩:=bs h16
 refine st20.cSFgB (sb:=0) (l:=[.const (.int .i64 4)]) 3 rfl iI rfl rfl rfl jQ (λ hg=>(st20.st.has 16 _ rfl).1 hg) (by simp) (λ hg=>(.cons cI .nil)) (λ hg=>zD (gh hg p22)) [6,15] rfl [2,5] rfl rfl (by decide) (λ G21 M21 a21 w21 st21=>?_)
 have st24:=st21.gs (Gs':=[oneB none,oneB none,oneB none,G21,(oneB (some b1)),G11]) rfl
 refine st24.seg 2 (
  sg rfl rfl (λ hg=>oCI rfl (zj hg rfl) cI)<|sc rfl (zQ rfl (tp rfl) (zb rfl))<|.nil) [6,19] rfl [(0,3),(2,4),(5,5)] rfl ⟨iI,⟨iI,⟨iI,trivial⟩⟩⟩ (λ a25 w25 st25=>?_)
 refine wpList_nil ?_
 have st26:=st25.ncf (s:=5) 5 rfl rfl iI [0,2] rfl
 refine za ?_
 refine st26.cs (c:=19) rfl h23 (λ c27 h27=>?_) (λ c28 h28=>?_)
 ·
  refine wp_seq ?_
  have st29:=st26.unm (s:=5) 5 rfl rfl iI [0,2] rfl
  refine st29.opB (s:=5) 5 rfl rfl iI [0,2] rfl (λ b30 C30 e30 st30=>?_)
  refine st30.held (λ w=>w.heap[b30]?=some (.cells C30 e30 (0,0))) zR (λ w31 st31=>?_)
  refine st31.tkO (i:=0) (s:=5) 5 1 rfl rfl (by decide +kernel) (by decide +kernel) (by decide +kernel) (λ _ _ _ _ h=>h) rfl iI rfl rfl kT30 rfl (by simp) (by simp) (by decide) [6,19] rfl [0,2] rfl rfl rfl rfl (by decide) (λ a32 G32 hz32 st32=>?_)
  refine st32.tkM (i:=1) (sb:=6) rfl rfl (by decide +kernel) (by decide +kernel) (by decide +kernel) (λ _ _ _ _ h=>h) (st32.bcS (s:=5) rfl) rfl rfl rfl rfl (λ a33 st33=>?_)
  refine st33.tkP (i:=2) (s:=5) rfl rfl (by decide +kernel) (by decide +kernel) (by decide +kernel) (λ _ _ _ _ h=>h) rfl rfl wz rfl (λ a34 st34=>?_)
  refine st34.tkC (i:=3) (s:=5) (s2:=22) rfl rfl (by decide +kernel) (by decide +kernel) (by decide +kernel) (λ _ _ _ _ h=>h) rfl rfl rfl kT28 rfl hz32 (by decide) (λ a35 st35=>?_)
  obtain⟨g35,A35,c35,hb35,hA35⟩:=st35.hdV (s:=20) (PV.root.fld owTree.f0) rfl
  refine st35.tkP (i:=5) (s:=5) rfl rfl (by decide +kernel) (by decide +kernel) (by decide +kernel) (λ _ _ _ _ h=>h) rfl rfl wz rfl (λ a36 st36=>?_)
  refine st36.tkC (i:=6) (s:=5) (s2:=25) rfl rfl (by decide +kernel) (by decide +kernel) (by decide +kernel) (λ _ _ _ _ h=>h) rfl rfl rfl kT28 rfl hz32 (by decide) (λ a37 st37=>?_)
  obtain⟨g37,A37,c37,hb37,hA37⟩:=st37.hdV (s:=20) (PV.root.fld owTree.f0) rfl
  obtain⟨v41,p41,h54⟩:=bs h27
  obtain⟨v44,p44,h55⟩:=bs h54
  obtain⟨v47,p47,h56⟩:=bs h55
  refine aH2 (i:=4) (j:=7) (by decide +kernel) rfl rfl ?_ ?_
  ·
   refine st37.seg 1 (sc rfl (oM rfl (zE rfl))<|.nil) [21,23,24,26] rfl [(0,3),(2,4),(5,5),(20,1)] rfl ⟨iI,⟨iI,⟨iI,⟨iI,trivial⟩⟩⟩⟩ (λ a57 w57 st57=>?_)
   refine aHN (st57.bcS (s:=5) rfl) ?_
   refine aH1 (i:=7) (by decide +kernel) rfl ?_
   refine st57.seg 1 (sc rfl (xLe rfl kL28 (opd_eq hb37 (tp rfl)))<|.nil) [21,23,24,27] rfl [(0,3),(2,4),(5,5),(20,1)] rfl ⟨iI,⟨iI,⟨iI,⟨iI,trivial⟩⟩⟩⟩ (λ a58 w58 st58=>?_)
   refine aHN (st58.bcS (s:=5) rfl) ?_
   refine aH1 (i:=8) (by decide +kernel) rfl ?_
   refine st58.cSF (l:=[.tmp 27]) 3 (st58.bkN (s:=0) rfl iI) rfl rfl jQ (Eq.trans (st58.st.has 24 _ rfl) (st58.st.has 0 _ rfl).1.symm) (by simp) (.cons (tp rfl) .nil) (zD p41) [21,23] rfl [2,5,20] rfl rfl (by decide) (λ G59 M59 a59 w59 st59=>?_)
   have st60:=st59.gs (Gs':=[oneB none,G32,oneB none,G59,(oneB (some b1)),(oneB (some b30))]) rfl
   refine aHN (st60.bcS (s:=5) rfl) ?_
   refine aH1 (i:=9) (by decide +kernel) rfl ?_
   refine st60.seg 1 (sc rfl (xIa (g:=g35) rfl kS28 (opd_eq hb35 (tp rfl)) (tp rfl) rfl hA35 p44)<|.nil) [21,29] rfl [(0,3),(2,4),(5,5),(20,1)] rfl ⟨iI,⟨iI,⟨iI,⟨iI,trivial⟩⟩⟩⟩ (λ a61 w61 st61=>?_)
   refine aHN (st61.bcS (s:=5) rfl) ?_
   refine aH1 (i:=10) (by decide +kernel) rfl ?_
   refine st61.seg 1 (sc rfl (xLf (sb:=20) ((PV.root.fld owTree.f0).row hb35 hA35 p44) rfl kT94 (tp rfl) rfl)<|.nil) [21,30] rfl [(0,3),(2,4),(5,5),(20,1)] rfl ⟨iI,⟨iI,⟨iI,⟨iI,trivial⟩⟩⟩⟩ (λ a62 w62 st62=>?_)
   refine aHN (st62.bcS (s:=5) rfl) ?_
   refine aH1 (i:=11) (by decide +kernel) rfl ?_
   refine st62.seg 1 (sc rfl (zi (l:=[.tmp 30]) rfl kN149 (.cons (tp rfl) .nil) (qZ p47))<|.nil) [21,31] rfl [(0,3),(2,4),(5,5),(20,1)] rfl ⟨iI,⟨iI,⟨iI,⟨iI,trivial⟩⟩⟩⟩ (λ a63 w63 st63=>?_)
   refine aHN (st63.bcS (s:=5) rfl) ?_
   refine aH1 (i:=12) (by decide +kernel) rfl ?_
   have st64:=st63.unm (s:=20) 1 rfl rfl iI [0,2,5] rfl
   refine st64.stO (sb:=2) (tv:=20) 4 1 (PV.root.box rfl) rfl rfl rfl kT30 (by simp) (by simp) (by decide) (zE rfl) rfl rfl rfl iI iI [21,31] rfl [0,5] rfl rfl rfl (λ G65 w65 st65=>?_)
   have st66:=st65.gs (Gs':=[oneB none,oneB none,oneB none,G59,G65,(oneB (some b30))]) rfl
   refine aHN (st66.bcS (s:=5) rfl) ?_
   refine aH1 (i:=13) (by decide +kernel) rfl ?_
   refine st66.seg 1 (sc rfl (oA rfl (tp rfl))<|.nil) [3,31] rfl [(0,3),(2,4),(5,5)] rfl ⟨iI,⟨iI,⟨iI,trivial⟩⟩⟩ (λ a67 w67 st67=>?_)
   refine aHN (st67.bcS (s:=5) rfl) ?_
   refine aH1 (i:=14) (by decide +kernel) rfl ?_
   refine st67.seg 1 (sc rfl (oA rfl (tp rfl))<|.nil) [3,4] rfl [(0,3),(2,4),(5,5)] rfl ⟨iI,⟨iI,⟨iI,trivial⟩⟩⟩ (λ a68 w68 st68=>?_)
   refine aHN (st68.bcS (s:=5) rfl) ?_
   refine aH0 (by decide +kernel) ?_
   refine za ?_
   refine wp_ret (zh ?_)
   obtain rfl:=Option.some.inj h56
   exact st68.rs3O (s:=0) 3 4 rfl kT30 rfl rfl rfl rfl ⟨rfl,rfl⟩ iI iI (by decide) ⟨rfl,rfl⟩
  ·
   refine st37.seg 1 (sc rfl (xLe rfl kL28 (opd_eq hb37 (tp rfl)))<|.nil) [21,23,27] rfl [(0,3),(2,4),(5,5),(20,1)] rfl ⟨iI,⟨iI,⟨iI,⟨iI,trivial⟩⟩⟩⟩ (λ a70 w70 st70=>?_)
   refine aHN (st70.bcS (s:=5) rfl) ?_
   refine aH1 (i:=4) (by decide +kernel) rfl ?_
   refine st70.seg 1 (sc rfl (oM rfl (zE rfl))<|.nil) [21,23,24,27] rfl [(0,3),(2,4),(5,5),(20,1)] rfl ⟨iI,⟨iI,⟨iI,⟨iI,trivial⟩⟩⟩⟩ (λ a71 w71 st71=>?_)
   refine aHN (st71.bcS (s:=5) rfl) ?_
   refine aH1 (i:=8) (by decide +kernel) rfl ?_
   refine st71.cSF (l:=[.tmp 27]) 3 (st71.bkN (s:=0) rfl iI) rfl rfl jQ (Eq.trans (st71.st.has 24 _ rfl) (st71.st.has 0 _ rfl).1.symm) (by simp) (.cons (tp rfl) .nil) (zD p41) [21,23] rfl [2,5,20] rfl rfl (by decide) (λ G72 M72 a72 w72 st72=>?_)
   have st73:=st72.gs (Gs':=[oneB none,G32,oneB none,G72,(oneB (some b1)),(oneB (some b30))]) rfl
   refine aHN (st73.bcS (s:=5) rfl) ?_
   refine aH1 (i:=9) (by decide +kernel) rfl ?_
   refine st73.seg 1 (sc rfl (xIa (g:=g35) rfl kS28 (opd_eq hb35 (tp rfl)) (tp rfl) rfl hA35 p44)<|.nil) [21,29] rfl [(0,3),(2,4),(5,5),(20,1)] rfl ⟨iI,⟨iI,⟨iI,⟨iI,trivial⟩⟩⟩⟩ (λ a74 w74 st74=>?_)
   refine aHN (st74.bcS (s:=5) rfl) ?_
   refine aH1 (i:=10) (by decide +kernel) rfl ?_
   refine st74.seg 1 (sc rfl (xLf (sb:=20) ((PV.root.fld owTree.f0).row hb35 hA35 p44) rfl kT94 (tp rfl) rfl)<|.nil) [21,30] rfl [(0,3),(2,4),(5,5),(20,1)] rfl ⟨iI,⟨iI,⟨iI,⟨iI,trivial⟩⟩⟩⟩ (λ a75 w75 st75=>?_)
   refine aHN (st75.bcS (s:=5) rfl) ?_
   refine aH1 (i:=11) (by decide +kernel) rfl ?_
   refine st75.seg 1 (sc rfl (zi (l:=[.tmp 30]) rfl kN149 (.cons (tp rfl) .nil) (qZ p47))<|.nil) [21,31] rfl [(0,3),(2,4),(5,5),(20,1)] rfl ⟨iI,⟨iI,⟨iI,⟨iI,trivial⟩⟩⟩⟩ (λ a76 w76 st76=>?_)
   refine aHN (st76.bcS (s:=5) rfl) ?_
   refine aH1 (i:=12) (by decide +kernel) rfl ?_
   have st77:=st76.unm (s:=20) 1 rfl rfl iI [0,2,5] rfl
   refine st77.stO (sb:=2) (tv:=20) 4 1 (PV.root.box rfl) rfl rfl rfl kT30 (by simp) (by simp) (by decide) (zE rfl) rfl rfl rfl iI iI [21,31] rfl [0,5] rfl rfl rfl (λ G78 w78 st78=>?_)
   have st79:=st78.gs (Gs':=[oneB none,oneB none,oneB none,G72,G78,(oneB (some b30))]) rfl
   refine aHN (st79.bcS (s:=5) rfl) ?_
   refine aH1 (i:=13) (by decide +kernel) rfl ?_
   refine st79.seg 1 (sc rfl (oA rfl (tp rfl))<|.nil) [3,31] rfl [(0,3),(2,4),(5,5)] rfl ⟨iI,⟨iI,⟨iI,trivial⟩⟩⟩ (λ a80 w80 st80=>?_)
   refine aHN (st80.bcS (s:=5) rfl) ?_
   refine aH1 (i:=14) (by decide +kernel) rfl ?_
   refine st80.seg 1 (sc rfl (oA rfl (tp rfl))<|.nil) [3,4] rfl [(0,3),(2,4),(5,5)] rfl ⟨iI,⟨iI,⟨iI,trivial⟩⟩⟩ (λ a81 w81 st81=>?_)
   refine aHN (st81.bcS (s:=5) rfl) ?_
   refine aH0 (by decide +kernel) ?_
   refine za ?_
   refine wp_ret (zh ?_)
   obtain rfl:=Option.some.inj h56
   exact st81.rs3O (s:=0) 3 4 rfl kT30 rfl rfl rfl rfl ⟨rfl,rfl⟩ iI iI (by decide) ⟨rfl,rfl⟩
 ·
  refine wp_skip (za (wp_seq ?_))
  have st83:=st26.unm (s:=5) 5 rfl rfl iI [0,2] rfl
  refine st83.opB (s:=5) 5 rfl rfl iI [0,2] rfl (λ b84 C84 e84 st84=>?_)
  refine st84.held (λ w=>w.heap[b84]?=some (.cells C84 e84 (0,0))) zR (λ w85 st85=>?_)
  refine st85.tkO (i:=0) (s:=5) 5 2 rfl rfl (by decide +kernel) (by decide +kernel) (by decide +kernel) (λ _ _ _ _ h=>h) rfl iI rfl rfl kT30 rfl (by simp) (by simp) (by decide) [6,19] rfl [0,2] rfl rfl rfl rfl (by decide) (λ a86 G86 hz86 st86=>?_)
  refine st86.tkM (i:=1) (sb:=6) rfl rfl (by decide +kernel) (by decide +kernel) (by decide +kernel) (λ _ _ _ _ h=>h) (st86.bcS (s:=5) rfl) rfl rfl rfl rfl (λ a87 st87=>?_)
  obtain⟨v90,p90,h98⟩:=bs h28
  refine aH1 (i:=2) (by decide +kernel) rfl ?_
  refine st87.seg 1 (sc rfl (oM rfl (zE rfl))<|.nil) [33,34] rfl [(0,3),(2,4),(5,5),(32,2)] rfl ⟨iI,⟨iI,⟨iI,⟨iI,trivial⟩⟩⟩⟩ (λ a99 w99 st99=>?_)
  refine aHN (st99.bcS (s:=5) rfl) ?_
  refine aH1 (i:=3) (by decide +kernel) rfl ?_
  refine st99.cSF (l:=[]) 3 (st99.bkN (s:=0) rfl iI) rfl rfl kN150 (Eq.trans (st99.st.has 34 _ rfl) (st99.st.has 0 _ rfl).1.symm) (by simp) .nil (QE p90) [33] rfl [2,5,32] rfl rfl (by decide) (λ G100 M100 a100 w100 st100=>?_)
  have st101:=st100.gs (Gs':=[oneB none,oneB none,G86,G100,(oneB (some b1)),(oneB (some b84))]) rfl
  refine aHN (st101.bcS (s:=5) rfl) ?_
  refine aH1 (i:=4) (by decide +kernel) rfl ?_
  have st102:=st101.unm (s:=32) 2 rfl rfl iI [0,2,5] rfl
  refine st102.stO (sb:=2) (tv:=32) 4 2 (PV.root.box rfl) rfl rfl rfl kT30 (by simp) (by simp) (by decide) (zE rfl) rfl rfl rfl iI iI [33,35] rfl [0,5] rfl rfl rfl (λ G103 w103 st103=>?_)
  have st104:=st103.gs (Gs':=[oneB none,oneB none,oneB none,G100,G103,(oneB (some b84))]) rfl
  refine aHN (st104.bcS (s:=5) rfl) ?_
  refine aH1 (i:=5) (by decide +kernel) rfl ?_
  refine st104.seg 1 (sc rfl (oA rfl (tp rfl))<|.nil) [3,35] rfl [(0,3),(2,4),(5,5)] rfl ⟨iI,⟨iI,⟨iI,trivial⟩⟩⟩ (λ a105 w105 st105=>?_)
  refine aHN (st105.bcS (s:=5) rfl) ?_
  refine aH1 (i:=6) (by decide +kernel) rfl ?_
  refine st105.seg 1 (sc rfl (oA rfl (tp rfl))<|.nil) [3,4] rfl [(0,3),(2,4),(5,5)] rfl ⟨iI,⟨iI,⟨iI,trivial⟩⟩⟩ (λ a106 w106 st106=>?_)
  refine aHN (st106.bcS (s:=5) rfl) ?_
  refine aH0 (by decide +kernel) ?_
  refine za (wp_ret ?_)
  obtain rfl:=Option.some.inj h98
  exact st106.rs3O (s:=0) 3 4 rfl kT30 rfl rfl rfl rfl ⟨rfl,rfl⟩ iI iI (by decide) ⟨rfl,rfl⟩
end Go.Proofs.YtiiiokblnnlapaaGreatDoor
