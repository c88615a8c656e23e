/-
  Models of functions, and their walks: printed by a program of our own (wip/mxo.py).
  Models of functions, and their walks: printed by a program of our own (wip/mxo.py).
-/
import Derived.Test.YtbnibckkfknpkaaGreatDoorLKM
import Derived.Test.YtbnibckkfknpkaaGreatDoorLGM
import Derived.Test.YtbnibckkfknpkaaGreatDoorLHM
namespace Go.Proofs.YtbnibckkfknpkaaGreatDoor
open Go.RowKit
set_option maxRecDepth 10000
set_option maxHeartbeats 1600000
theorem kN148 : fnB Tryz.prog 148 = true := by kernel_rfl
def m_spec_anyTree (x0 : Reader) : Option (Reader × Tree) :=
(m_spec_someTree x0).bind fun v5 =>
Option.bind (α := Reader × Tree) (if (cmpI .gtr (v5.2.files.length : Int) (0 : Int)) = true then ((m_spec_reader_pick v5.1 (24 : Int)).bind fun v20 =>
if (cmpI .eql v20.2 (0 : Int)) = true then ((atI v5.2.files (0 : Int)).bind fun v30 =>
(appO 80 v5.2.files ([v30] : List File)).bind fun v38 =>
some (v20.1, (⟨v38⟩ : Tree)))
else (if (cmpI .eql v20.2 (1 : Int)) = true then ((m_spec_reader_one v20.1 ([(-1 : Int), (3 : Int)] : List Int)).bind fun v59 =>
(atI v5.2.files (0 : Int)).bind fun v62 =>
some (v59.1, (⟨(v5.2.files.set (0 : Int).toNat ({ v62 with root := v59.2 }))⟩ : Tree)))
else (if (cmpI .eql v20.2 (2 : Int)) = true then ((m_spec_reader_one v20.1 ([(-1 : Int), (100 : Int)] : List Int)).bind fun v103 =>
(atI v5.2.files (0 : Int)).bind fun v106 =>
some (v103.1, (⟨(v5.2.files.set (0 : Int).toNat ({ v106 with stamp := v103.2 }))⟩ : Tree)))
else (if (cmpI .eql v20.2 (3 : Int)) = true then ((atI v5.2.files (0 : Int)).bind fun v147 =>
(appO 56 v147.body ([(⟨(9 : Int), ⟨[]⟩, 0, ⟨[]⟩, 0⟩ : Stmt)] : List Stmt)).bind fun v158 =>
(atI v5.2.files (0 : Int)).bind fun _v161 =>
some (v20.1, (⟨(v5.2.files.set (0 : Int).toNat ({ v147 with body := v158 }))⟩ : Tree)))
else (some (v20.1, v5.2))))))
else (some (v5.1, v5.2))) fun o12 =>
some (o12.1, o12.2)
theorem spec_anyTree_w {x0 : Reader} {r : Reader × Tree} (h : m_spec_anyTree x0 = some r) : FnS Tryz.prog 115 (Ow.box (Ow.frz (α := Reader))) ⟨x0⟩ [] ⟨r.1⟩ (.ow (owTree (Ow.row 61 (Ow.frz (α := File)))) r.2) := by
 unfold m_spec_anyTree at h
 refine fnSB (fn := Tryz.f115) 4 9 Tryz.func115 rfl (of_decide_eq_true rfl) rfl (fun M G w0 b0 a0 st0 => ?_)
 refine wp_seq (wp_region_list ?_)
 refine st0.alcW (ow := (owTree (Ow.row 61 (Ow.frz (α := File))))) 7 rfl rfl kZ30 (owTree.z Ow.row_z) (by simp) [] rfl [0] rfl rfl (fun b1 M1 a1 w1 st1 => ?_)
 have st2 := st1.gs (Gs' := [oneB none, oneB none, oneB none, oneB none, G, oneB none, oneB none, (oneB (some b1)), oneB none]) rfl
 refine wpList_nil (then_normal (wp_seq (wp_region_list ?_)))
 refine st2.seg 1 (
  sc rfl (oM rfl (tp rfl)) <| .nil) [] rfl [(0, 4), (2, 7), (4, 4)] rfl ⟨iI, ⟨iI, ⟨iI, trivial⟩⟩⟩ (fun a3 w3 st3 => ?_)
 obtain ⟨v5, p5, h6⟩ := bs h
 refine st3.cSO (l := []) 4 0 (st3.bkN (s := 0) rfl iI) rfl rfl kN148 ((st3.st.has 4 _ rfl).1.trans (st3.st.has 0 _ rfl).1.symm) (by simp) (by simp) (by decide) .nil (spec_someTree_w p5) [] rfl [2] rfl rfl rfl rfl (by decide) (fun G4 H4 M4 a4 w4 st4 => ?_)
 have st7 := st4.gs (Gs' := [H4, oneB none, oneB none, oneB none, G4, oneB none, oneB none, (oneB (some b1)), oneB none]) rfl
 refine st7.alcW (ow := (owTree (Ow.row 61 (owFile (Ow.row 64 (Ow.frz (α := Stmt))))))) 8 rfl rfl kZ30 (owTree.z Ow.row_z) (by simp) [] rfl [0, 2, 5] rfl rfl (fun b8 M8 a8 w8 st8 => ?_)
 have st9 := st8.gs (Gs' := [H4, oneB none, oneB none, oneB none, G4, oneB none, oneB none, (oneB (some b1)), (oneB (some b8))]) rfl
 refine st9.stO (sb := 3) (tv := 5) 8 0 (PV.root.box rfl) rfl rfl rfl kT30 (by simp) (by simp) (by decide) (opd_nm rfl) rfl rfl rfl iI iI [] rfl [0, 2] rfl rfl rfl (fun G10 w10 st10 => ?_)
 have st11 := st10.gs (Gs' := [oneB none, oneB none, oneB none, oneB none, G4, oneB none, oneB none, (oneB (some b1)), G10]) rfl
 refine wpList_nil (then_normal ?_)
 obtain ⟨o12, p12, k12⟩ := bs h6
 refine wp_seq_join (fun a w => ∃ M1 q12_0 q12_1 q12_2 q12_3 q12_4 q12_5 q12_6 q12_7 q12_8, Sx (Frm.chg w0 G) 56 M M1 [q12_0, q12_1, q12_2, q12_3, q12_4, q12_5, q12_6, q12_7, q12_8] [] [(0, 4, dnm (Ow.box (Ow.frz (α := Reader))) q12_4 ⟨o12.1⟩ (.pointer (some ⟨b0, 0, none⟩)) []), (2, 7, dow (Ow.box (owTree (Ow.row 61 (Ow.frz (α := File))))) q12_7 ⟨zTree⟩), (3, 8, dow (Ow.box (owTree (Ow.row 61 (Ow.frz (α := File))))) q12_8 ⟨o12.2⟩)] a w) ?_ ?_
 ·
  refine st11.hdR (s := 3) 8 true (fun _ => ((PV.root.box rfl).fld owTree.f0)) rfl rfl iI [0, 2] rfl (fun g13 A13 c13 hA13 st13 => ?_)
  refine st13.sq (
   sc rfl (xFa rfl kF30_0 (opd_nm rfl)) <|
   sc rfl (xLc (sb := 3) (.head _) rfl rfl rfl kT28 (tp rfl) rfl) <|
   sc rfl (xLe rfl kL28 (tp rfl)) <|
   sc rfl (oCI rfl (tp rfl) cI) <| .nil) [9] rfl [(0, 4), (2, 7), (3, 8)] rfl ⟨iI, ⟨iI, ⟨iI, trivial⟩⟩⟩ (fun a14 w14 st14 => ?_)
  have st15 := st14.ncf (s := 3) 8 rfl rfl iI [0, 2] rfl
  refine st15.cs (c := 9) rfl p12 (fun c16 h16 => ?_) (fun c17 h17 => ?_)
  ·
   refine wp_seq (wp_region_list ?_)
   refine st15.seg 1 (
    sc rfl (oM rfl (tp rfl)) <| .nil) [] rfl [(0, 4), (2, 7), (3, 8), (10, 4)] rfl ⟨iI, ⟨iI, ⟨iI, ⟨iI, trivial⟩⟩⟩⟩ (fun a18 w18 st18 => ?_)
   obtain ⟨v20, p20, h21⟩ := bs h16
   refine st18.cSF (l := [.const (.int .i64 24)]) 4 (st18.bkN (s := 0) rfl iI) rfl rfl kN117 ((st18.st.has 10 _ rfl).1.trans (st18.st.has 0 _ rfl).1.symm) (by simp) (.cons cI .nil) (spec_reader_pick_w p20) [] rfl [2, 3] rfl rfl (by decide) (fun G19 M19 a19 w19 st19 => ?_)
   have st22 := st19.gs (Gs' := [oneB none, oneB none, oneB none, oneB none, G19, oneB none, oneB none, (oneB (some b1)), G10]) rfl
   refine wpList_nil (then_normal (wp_block ?_))
   refine st22.sq (
    sc rfl (oCI rfl (tp rfl) cI) <|
    sc rfl (oA rfl (tp rfl)) <| .nil) [11, 12] rfl [(0, 4), (2, 7), (3, 8)] rfl ⟨iI, ⟨iI, ⟨iI, trivial⟩⟩⟩ (fun a23 w23 st23 => ?_)
   refine st23.cs (c := 12) rfl h21 (fun c24 h24 => ?_) (fun c25 h25 => ?_)
   ·
    have st26 := st23.unm (s := 3) 8 rfl rfl iI [0, 2] rfl
    refine st26.thin (s := 3) (o2 := (Ow.box (owTree (Ow.row 61 (Ow.frz (α := File)))))) 8 (thin_box (thin_via thin_row)) rfl rfl (by simp) iI [11, 12] rfl [0, 2] rfl rfl (fun G27 M27 st27 => ?_)
    obtain ⟨v30, p30, h31⟩ := bs h24
    refine st27.nmB (s := 3) 8 rfl rfl iI [0, 2] rfl (fun b28 st28 => ?_)
    refine st28.hdR (s := 3) 8 true (fun _ => ((PV.root.box rfl).fld owTree.f0)) rfl rfl iI [0, 2] rfl (fun g29 A29 c29 hA29 st29 => ?_)
    refine st29.drn (D := [_, _, _, _, _, _, _]) Tryz_mixed 7 [[], [0], [], [2], [2, 3], [2, 3, 4], [2, 3, 4, 5], [0, 1, 2, 3, 4, 5, 6], [0, 1, 2, 3, 4, 5, 6, 7], [0, 1, 2, 3, 4, 5, 6, 7, 8]] [[(3, none)], [(14, some 0), (3, none)], [(3, none)], [(16, some 2), (3, none)], [(17, some 3)], [(18, some 4), (3, none)], [(19, some 5)], [(15, some 1), (20, some 6)], [(3, none)], [(22, some 8), (21, some 7)]] (by decide +kernel) (by decide) (
     rc rfl rfl (xFa rfl kF30_0 (opd_nm rfl)) <|
     rc rfl rfl (xLc (sb := 3) (.head _) rfl rfl rfl kT28 (tp rfl) rfl) <|
     rc rfl rfl (xFa rfl kF30_0 (opd_nm rfl)) <|
     rc rfl rfl (xLc (sb := 3) (.head _) rfl rfl rfl kT28 (tp rfl) rfl) <|
     rc rfl rfl (xIa (g := g29) rfl kS28 (tp rfl) cI rfl (fun h => hA29 h rfl) p30) <|
     rc rfl rfl (xLf (sb := 3) (((PV.root.box rfl).fld owTree.f0).row (.head _) rfl (fun h => hA29 h rfl) p30) rfl kT61 (tp rfl) rfl) <|
     rc rfl rfl (op_lit (opds := [.tmp 19]) rfl kS28 kY28 rfl rfl (by decide) (.cons (tp rfl) .nil)) <| .nil) [15, 20] rfl [(0, 4), (2, 7), (3, 8)] rfl ⟨iI, ⟨iI, ⟨iI, trivial⟩⟩⟩ (fun a32 w32 st32 => ?_)
    refine st32.mvG (s := 15) (sb := 3) 8 1 ((PV.root.box rfl).fld owTree.f0) (.head _) rfl (fits_one rfl rfl) rfl (by simp) (by simp) (by decide) rfl iI [20] rfl [0, 2] rfl rfl rfl rfl (fun G34 H34 st34 => ?_)
    have st35 := st34.gs (Gs' := [oneB none, H34, oneB none, oneB none, G19, oneB none, oneB none, (oneB (some b1)), G34]) rfl
    refine st35.tipR (s := 15) 1 rfl rfl (by simp) iI [0, 2, 3] rfl rfl (fun g36 st36 => ?_)
    obtain ⟨v38, p38, h39⟩ := bs h31
    refine st36.app 1 rfl rfl kE28 rfl rfl rfl row_dt p38 [] rfl [0, 2, 3] rfl rfl (fun g37 M37 a37 w37 st37 => ?_)
    have st40 := st37.gs (Gs' := [oneB none, oneB g37, oneB none, oneB none, G19, oneB none, oneB none, (oneB (some b1)), G34]) rfl
    refine st40.seg 1 (
     sc rfl (xFa rfl kF30_0 (opd_hl rfl)) <| .nil) [22] rfl [(0, 4), (2, 7), (3, 8), (21, 1)] rfl ⟨iI, ⟨iI, ⟨iI, ⟨iI, trivial⟩⟩⟩⟩ (fun a41 w41 st41 => ?_)
    have st43 := st41.tipW (s := 21) 1 rfl rfl iI [0, 2, 3] rfl
    refine st43.stH (sb := 3) (tv := 21) 8 1 rfl rfl rfl kT28 (by simp) (by simp) (by decide) (tp rfl) rfl rfl iI iI [] rfl [0, 2] rfl rfl rfl (fun G42 w42 st42 => ?_)
    have st44 := st42.gs (Gs' := [oneB none, oneB none, oneB none, oneB none, G19, oneB none, oneB none, (oneB (some b1)), G42]) rfl
    refine wpList_nil (blk_normal ?_)
    have st45 := st44.unm (s := 2) 7 rfl rfl iI [0, 3] rfl
    have st46 := st45.unm (s := 3) 8 rfl rfl iI [0, 2] rfl
    refine then_normal ?_
    obtain rfl := Option.some.inj h39
    exact ⟨_, _, _, _, _, _, _, _, _, _, st46.sel [] rfl [(0, 4), (2, 7), (3, 8)] rfl ⟨iI, ⟨iI, ⟨iI, trivial⟩⟩⟩⟩
   ·
    refine st23.sq (
     sc rfl (oCI rfl (tp rfl) cI) <|
     sc rfl (oA rfl (tp rfl)) <| .nil) [11, 23] rfl [(0, 4), (2, 7), (3, 8)] rfl ⟨iI, ⟨iI, ⟨iI, trivial⟩⟩⟩ (fun a48 w48 st48 => ?_)
    refine st48.cs (c := 23) rfl h25 (fun c49 h49 => ?_) (fun c50 h50 => ?_)
    ·
     refine st48.hdR (s := 3) 8 true (fun _ => ((PV.root.box rfl).fld owTree.f0)) rfl rfl iI [0, 2] rfl (fun g51 A51 c51 hA51 st51 => ?_)
     refine st51.held (fun w => w.cell? ⟨b8, 0, none⟩ = some (.slice A51 (v5.2.files.length) c51)) Tryz_mixed (fun w52 st52 => ?_)
     refine st52.tk (i := 0) rfl rfl (by decide +kernel) (by decide +kernel) (by decide +kernel) (fun _ _ _ h => h) (st52.cellS (sb := 3) rfl (.head _) rfl rfl) (yFa rfl kF30_0 (st52.st.has 3 _ rfl).1) (fun a53 st53 => ?_)
     refine st53.tk (i := 1) rfl rfl (by decide +kernel) (by decide +kernel) (by decide +kernel) (fun _ _ _ h => h) (st53.cellS (sb := 3) rfl (.head _) rfl rfl) (yLd rfl kT28 (st53.st.has 25 _ rfl) (fun _ h => h)) (fun a54 st54 => ?_)
     refine st54.mvN (s := 26) (sb := 3) 8 2 ((PV.root.box rfl).fld owTree.f0) (.head _) rfl (fits_one rfl rfl) rfl rfl (by simp) (by simp) (by decide) rfl iI [11, 23, 25] rfl [0, 2] rfl rfl rfl rfl (by decide) (fun G55 H55 st55 => ?_)
     obtain ⟨v59, p59, h66⟩ := bs h49
     obtain ⟨v62, p62, h67⟩ := bs h66
     refine aH2 (i := 2) (j := 3) (by decide +kernel) rfl rfl ?_ ?_
     ·
      refine st55.seg 1 (sc rfl (oM rfl (tp rfl)) <| .nil) [] rfl [(0, 4), (2, 7), (3, 8), (26, 2), (27, 4)] rfl ⟨iI, ⟨iI, ⟨iI, ⟨iI, ⟨iI, trivial⟩⟩⟩⟩⟩ (fun a68 w68 st68 => ?_)
      refine aHN (st68.hkS (sb := 3) rfl) ?_
      refine aH1 (i := 3) (by decide +kernel) rfl ?_
      refine st68.seg 1 (sc rfl (op_lit (opds := [.const (.int .i64 (-1)), .const (.int .i64 3)]) rfl kS25 kY25 rfl rfl (by decide) (.cons cI (.cons cI .nil))) <| .nil) [28] rfl [(0, 4), (2, 7), (3, 8), (26, 2), (27, 4)] rfl ⟨iI, ⟨iI, ⟨iI, ⟨iI, ⟨iI, trivial⟩⟩⟩⟩⟩ (fun a69 w69 st69 => ?_)
      refine aHN (st69.hkS (sb := 3) rfl) ?_
      refine aH1 (i := 4) (by decide +kernel) rfl ?_
      refine st69.cSF (l := [.tmp 28]) 4 (st69.bkN (s := 0) rfl iI) rfl rfl kN124 ((st69.st.has 27 _ rfl).1.trans (st69.st.has 0 _ rfl).1.symm) (by simp) (.cons (tp rfl) .nil) (spec_reader_one_w p59) [] rfl [2, 3, 26] rfl rfl (by decide) (fun G70 M70 a70 w70 st70 => ?_)
      have st71 := st70.gs (Gs' := [oneB none, oneB none, H55, oneB none, G70, oneB none, oneB none, (oneB (some b1)), G55]) rfl
      refine aHN (st71.hkS (sb := 3) rfl) ?_
      refine aH1 (i := 5) (by decide +kernel) rfl ?_
      refine st71.seg 1 (sc rfl (xIaN rfl kS28 rfl cI (fun h => hA51 h rfl) p62) <| .nil) [29, 30] rfl [(0, 4), (2, 7), (3, 8), (26, 2)] rfl ⟨iI, ⟨iI, ⟨iI, ⟨iI, trivial⟩⟩⟩⟩ (fun a72 w72 st72 => ?_)
      refine aHN (st72.hkS (sb := 3) rfl) ?_
      refine aH1 (i := 6) (by decide +kernel) rfl ?_
      refine st72.seg 1 (sc rfl (xFa rfl kF61_0 (tp rfl)) <| .nil) [29, 31] rfl [(0, 4), (2, 7), (3, 8), (26, 2)] rfl ⟨iI, ⟨iI, ⟨iI, ⟨iI, trivial⟩⟩⟩⟩ (fun a73 w73 st73 => ?_)
      refine aHN (st73.hkS (sb := 3) rfl) ?_
      refine aH1 (i := 7) (by decide +kernel) rfl ?_
      refine st73.stF (sb := 26) 2 ((PV.root.row rfl (fun h => hA51 h rfl) p62).fld owFile.f0) rfl rfl rfl kT3 (by simp) (tp rfl) (tp rfl) rfl rfl iI [] rfl [0, 2, 3] rfl rfl (fun w74 st74 => ?_)
      refine aHN (st74.hkS (sb := 3) rfl) ?_
      refine aH0 (by decide +kernel) ?_
      refine st74.stG (s := 26) (sb := 3) 8 2 rfl (by simp) (by simp) (by decide) rfl rfl iI iI [] rfl [0, 2] rfl rfl rfl (fun G75 st75 => ?_)
      have st76 := st75.gs (Gs' := [oneB none, oneB none, oneB none, oneB none, G70, oneB none, oneB none, (oneB (some b1)), G75]) rfl
      refine blk_normal ?_
      have st77 := st76.unm (s := 2) 7 rfl rfl iI [0, 3] rfl
      have st78 := st77.unm (s := 3) 8 rfl rfl iI [0, 2] rfl
      refine st78.thin (s := 3) (o2 := (Ow.box (owTree (Ow.row 61 (Ow.frz (α := File)))))) 8 (thin_box (thin_via thin_row)) rfl rfl (by simp) iI [] rfl [0, 2] rfl rfl (fun G79 M79 st79 => ?_)
      refine then_normal ?_
      obtain rfl := Option.some.inj h67
      exact ⟨_, _, _, _, _, _, _, _, _, _, st79.sel [] rfl [(0, 4), (2, 7), (3, 8)] rfl ⟨iI, ⟨iI, ⟨iI, trivial⟩⟩⟩⟩
     ·
      refine st55.seg 1 (sc rfl (op_lit (opds := [.const (.int .i64 (-1)), .const (.int .i64 3)]) rfl kS25 kY25 rfl rfl (by decide) (.cons cI (.cons cI .nil))) <| .nil) [28] rfl [(0, 4), (2, 7), (3, 8), (26, 2)] rfl ⟨iI, ⟨iI, ⟨iI, ⟨iI, trivial⟩⟩⟩⟩ (fun a80 w80 st80 => ?_)
      refine aHN (st80.hkS (sb := 3) rfl) ?_
      refine aH1 (i := 2) (by decide +kernel) rfl ?_
      refine st80.seg 1 (sc rfl (oM rfl (tp rfl)) <| .nil) [28] rfl [(0, 4), (2, 7), (3, 8), (26, 2), (27, 4)] rfl ⟨iI, ⟨iI, ⟨iI, ⟨iI, ⟨iI, trivial⟩⟩⟩⟩⟩ (fun a81 w81 st81 => ?_)
      refine aHN (st81.hkS (sb := 3) rfl) ?_
      refine aH1 (i := 4) (by decide +kernel) rfl ?_
      refine st81.cSF (l := [.tmp 28]) 4 (st81.bkN (s := 0) rfl iI) rfl rfl kN124 ((st81.st.has 27 _ rfl).1.trans (st81.st.has 0 _ rfl).1.symm) (by simp) (.cons (tp rfl) .nil) (spec_reader_one_w p59) [] rfl [2, 3, 26] rfl rfl (by decide) (fun G82 M82 a82 w82 st82 => ?_)
      have st83 := st82.gs (Gs' := [oneB none, oneB none, H55, oneB none, G82, oneB none, oneB none, (oneB (some b1)), G55]) rfl
      refine aHN (st83.hkS (sb := 3) rfl) ?_
      refine aH1 (i := 5) (by decide +kernel) rfl ?_
      refine st83.seg 1 (sc rfl (xIaN rfl kS28 rfl cI (fun h => hA51 h rfl) p62) <| .nil) [29, 30] rfl [(0, 4), (2, 7), (3, 8), (26, 2)] rfl ⟨iI, ⟨iI, ⟨iI, ⟨iI, trivial⟩⟩⟩⟩ (fun a84 w84 st84 => ?_)
      refine aHN (st84.hkS (sb := 3) rfl) ?_
      refine aH1 (i := 6) (by decide +kernel) rfl ?_
      refine st84.seg 1 (sc rfl (xFa rfl kF61_0 (tp rfl)) <| .nil) [29, 31] rfl [(0, 4), (2, 7), (3, 8), (26, 2)] rfl ⟨iI, ⟨iI, ⟨iI, ⟨iI, trivial⟩⟩⟩⟩ (fun a85 w85 st85 => ?_)
      refine aHN (st85.hkS (sb := 3) rfl) ?_
      refine aH1 (i := 7) (by decide +kernel) rfl ?_
      refine st85.stF (sb := 26) 2 ((PV.root.row rfl (fun h => hA51 h rfl) p62).fld owFile.f0) rfl rfl rfl kT3 (by simp) (tp rfl) (tp rfl) rfl rfl iI [] rfl [0, 2, 3] rfl rfl (fun w86 st86 => ?_)
      refine aHN (st86.hkS (sb := 3) rfl) ?_
      refine aH0 (by decide +kernel) ?_
      refine st86.stG (s := 26) (sb := 3) 8 2 rfl (by simp) (by simp) (by decide) rfl rfl iI iI [] rfl [0, 2] rfl rfl rfl (fun G87 st87 => ?_)
      have st88 := st87.gs (Gs' := [oneB none, oneB none, oneB none, oneB none, G82, oneB none, oneB none, (oneB (some b1)), G87]) rfl
      refine blk_normal ?_
      have st89 := st88.unm (s := 2) 7 rfl rfl iI [0, 3] rfl
      have st90 := st89.unm (s := 3) 8 rfl rfl iI [0, 2] rfl
      refine st90.thin (s := 3) (o2 := (Ow.box (owTree (Ow.row 61 (Ow.frz (α := File)))))) 8 (thin_box (thin_via thin_row)) rfl rfl (by simp) iI [] rfl [0, 2] rfl rfl (fun G91 M91 st91 => ?_)
      refine then_normal ?_
      obtain rfl := Option.some.inj h67
      exact ⟨_, _, _, _, _, _, _, _, _, _, st91.sel [] rfl [(0, 4), (2, 7), (3, 8)] rfl ⟨iI, ⟨iI, ⟨iI, trivial⟩⟩⟩⟩
    ·
     refine st48.sq (
      sc rfl (oCI rfl (tp rfl) cI) <|
      sc rfl (oA rfl (tp rfl)) <| .nil) [11, 32] rfl [(0, 4), (2, 7), (3, 8)] rfl ⟨iI, ⟨iI, ⟨iI, trivial⟩⟩⟩ (fun a92 w92 st92 => ?_)
     refine st92.cs (c := 32) rfl h50 (fun c93 h93 => ?_) (fun c94 h94 => ?_)
     ·
      refine st92.hdR (s := 3) 8 true (fun _ => ((PV.root.box rfl).fld owTree.f0)) rfl rfl iI [0, 2] rfl (fun g95 A95 c95 hA95 st95 => ?_)
      refine st95.held (fun w => w.cell? ⟨b8, 0, none⟩ = some (.slice A95 (v5.2.files.length) c95)) Tryz_mixed (fun w96 st96 => ?_)
      refine st96.tk (i := 0) rfl rfl (by decide +kernel) (by decide +kernel) (by decide +kernel) (fun _ _ _ h => h) (st96.cellS (sb := 3) rfl (.head _) rfl rfl) (yFa rfl kF30_0 (st96.st.has 3 _ rfl).1) (fun a97 st97 => ?_)
      refine st97.tk (i := 1) rfl rfl (by decide +kernel) (by decide +kernel) (by decide +kernel) (fun _ _ _ h => h) (st97.cellS (sb := 3) rfl (.head _) rfl rfl) (yLd rfl kT28 (st97.st.has 34 _ rfl) (fun _ h => h)) (fun a98 st98 => ?_)
      refine st98.mvN (s := 35) (sb := 3) 8 3 ((PV.root.box rfl).fld owTree.f0) (.head _) rfl (fits_one rfl rfl) rfl rfl (by simp) (by simp) (by decide) rfl iI [11, 32, 34] rfl [0, 2] rfl rfl rfl rfl (by decide) (fun G99 H99 st99 => ?_)
      obtain ⟨v103, p103, h110⟩ := bs h93
      obtain ⟨v106, p106, h111⟩ := bs h110
      refine aH2 (i := 2) (j := 3) (by decide +kernel) rfl rfl ?_ ?_
      ·
       refine st99.seg 1 (sc rfl (oM rfl (tp rfl)) <| .nil) [] rfl [(0, 4), (2, 7), (3, 8), (35, 3), (36, 4)] rfl ⟨iI, ⟨iI, ⟨iI, ⟨iI, ⟨iI, trivial⟩⟩⟩⟩⟩ (fun a112 w112 st112 => ?_)
       refine aHN (st112.hkS (sb := 3) rfl) ?_
       refine aH1 (i := 3) (by decide +kernel) rfl ?_
       refine st112.seg 1 (sc rfl (op_lit (opds := [.const (.int .i64 (-1)), .const (.int .i64 100)]) rfl kS25 kY25 rfl rfl (by decide) (.cons cI (.cons cI .nil))) <| .nil) [37] rfl [(0, 4), (2, 7), (3, 8), (35, 3), (36, 4)] rfl ⟨iI, ⟨iI, ⟨iI, ⟨iI, ⟨iI, trivial⟩⟩⟩⟩⟩ (fun a113 w113 st113 => ?_)
       refine aHN (st113.hkS (sb := 3) rfl) ?_
       refine aH1 (i := 4) (by decide +kernel) rfl ?_
       refine st113.cSF (l := [.tmp 37]) 4 (st113.bkN (s := 0) rfl iI) rfl rfl kN124 ((st113.st.has 36 _ rfl).1.trans (st113.st.has 0 _ rfl).1.symm) (by simp) (.cons (tp rfl) .nil) (spec_reader_one_w p103) [] rfl [2, 3, 35] rfl rfl (by decide) (fun G114 M114 a114 w114 st114 => ?_)
       have st115 := st114.gs (Gs' := [oneB none, oneB none, oneB none, H99, G114, oneB none, oneB none, (oneB (some b1)), G99]) rfl
       refine aHN (st115.hkS (sb := 3) rfl) ?_
       refine aH1 (i := 5) (by decide +kernel) rfl ?_
       refine st115.seg 1 (sc rfl (xIaN rfl kS28 rfl cI (fun h => hA95 h rfl) p106) <| .nil) [38, 39] rfl [(0, 4), (2, 7), (3, 8), (35, 3)] rfl ⟨iI, ⟨iI, ⟨iI, ⟨iI, trivial⟩⟩⟩⟩ (fun a116 w116 st116 => ?_)
       refine aHN (st116.hkS (sb := 3) rfl) ?_
       refine aH1 (i := 6) (by decide +kernel) rfl ?_
       refine st116.seg 1 (sc rfl (xFa rfl kF61_4 (tp rfl)) <| .nil) [38, 40] rfl [(0, 4), (2, 7), (3, 8), (35, 3)] rfl ⟨iI, ⟨iI, ⟨iI, ⟨iI, trivial⟩⟩⟩⟩ (fun a117 w117 st117 => ?_)
       refine aHN (st117.hkS (sb := 3) rfl) ?_
       refine aH1 (i := 7) (by decide +kernel) rfl ?_
       refine st117.stF (sb := 35) 3 ((PV.root.row rfl (fun h => hA95 h rfl) p106).fld owFile.f4) rfl rfl rfl kT3 (by simp) (tp rfl) (tp rfl) rfl rfl iI [] rfl [0, 2, 3] rfl rfl (fun w118 st118 => ?_)
       refine aHN (st118.hkS (sb := 3) rfl) ?_
       refine aH0 (by decide +kernel) ?_
       refine st118.stG (s := 35) (sb := 3) 8 3 rfl (by simp) (by simp) (by decide) rfl rfl iI iI [] rfl [0, 2] rfl rfl rfl (fun G119 st119 => ?_)
       have st120 := st119.gs (Gs' := [oneB none, oneB none, oneB none, oneB none, G114, oneB none, oneB none, (oneB (some b1)), G119]) rfl
       refine blk_normal ?_
       have st121 := st120.unm (s := 2) 7 rfl rfl iI [0, 3] rfl
       have st122 := st121.unm (s := 3) 8 rfl rfl iI [0, 2] rfl
       refine st122.thin (s := 3) (o2 := (Ow.box (owTree (Ow.row 61 (Ow.frz (α := File)))))) 8 (thin_box (thin_via thin_row)) rfl rfl (by simp) iI [] rfl [0, 2] rfl rfl (fun G123 M123 st123 => ?_)
       refine then_normal ?_
       obtain rfl := Option.some.inj h111
       exact ⟨_, _, _, _, _, _, _, _, _, _, st123.sel [] rfl [(0, 4), (2, 7), (3, 8)] rfl ⟨iI, ⟨iI, ⟨iI, trivial⟩⟩⟩⟩
      ·
       refine st99.seg 1 (sc rfl (op_lit (opds := [.const (.int .i64 (-1)), .const (.int .i64 100)]) rfl kS25 kY25 rfl rfl (by decide) (.cons cI (.cons cI .nil))) <| .nil) [37] rfl [(0, 4), (2, 7), (3, 8), (35, 3)] rfl ⟨iI, ⟨iI, ⟨iI, ⟨iI, trivial⟩⟩⟩⟩ (fun a124 w124 st124 => ?_)
       refine aHN (st124.hkS (sb := 3) rfl) ?_
       refine aH1 (i := 2) (by decide +kernel) rfl ?_
       refine st124.seg 1 (sc rfl (oM rfl (tp rfl)) <| .nil) [37] rfl [(0, 4), (2, 7), (3, 8), (35, 3), (36, 4)] rfl ⟨iI, ⟨iI, ⟨iI, ⟨iI, ⟨iI, trivial⟩⟩⟩⟩⟩ (fun a125 w125 st125 => ?_)
       refine aHN (st125.hkS (sb := 3) rfl) ?_
       refine aH1 (i := 4) (by decide +kernel) rfl ?_
       refine st125.cSF (l := [.tmp 37]) 4 (st125.bkN (s := 0) rfl iI) rfl rfl kN124 ((st125.st.has 36 _ rfl).1.trans (st125.st.has 0 _ rfl).1.symm) (by simp) (.cons (tp rfl) .nil) (spec_reader_one_w p103) [] rfl [2, 3, 35] rfl rfl (by decide) (fun G126 M126 a126 w126 st126 => ?_)
       have st127 := st126.gs (Gs' := [oneB none, oneB none, oneB none, H99, G126, oneB none, oneB none, (oneB (some b1)), G99]) rfl
       refine aHN (st127.hkS (sb := 3) rfl) ?_
       refine aH1 (i := 5) (by decide +kernel) rfl ?_
       refine st127.seg 1 (sc rfl (xIaN rfl kS28 rfl cI (fun h => hA95 h rfl) p106) <| .nil) [38, 39] rfl [(0, 4), (2, 7), (3, 8), (35, 3)] rfl ⟨iI, ⟨iI, ⟨iI, ⟨iI, trivial⟩⟩⟩⟩ (fun a128 w128 st128 => ?_)
       refine aHN (st128.hkS (sb := 3) rfl) ?_
       refine aH1 (i := 6) (by decide +kernel) rfl ?_
       refine st128.seg 1 (sc rfl (xFa rfl kF61_4 (tp rfl)) <| .nil) [38, 40] rfl [(0, 4), (2, 7), (3, 8), (35, 3)] rfl ⟨iI, ⟨iI, ⟨iI, ⟨iI, trivial⟩⟩⟩⟩ (fun a129 w129 st129 => ?_)
       refine aHN (st129.hkS (sb := 3) rfl) ?_
       refine aH1 (i := 7) (by decide +kernel) rfl ?_
       refine st129.stF (sb := 35) 3 ((PV.root.row rfl (fun h => hA95 h rfl) p106).fld owFile.f4) rfl rfl rfl kT3 (by simp) (tp rfl) (tp rfl) rfl rfl iI [] rfl [0, 2, 3] rfl rfl (fun w130 st130 => ?_)
       refine aHN (st130.hkS (sb := 3) rfl) ?_
       refine aH0 (by decide +kernel) ?_
       refine st130.stG (s := 35) (sb := 3) 8 3 rfl (by simp) (by simp) (by decide) rfl rfl iI iI [] rfl [0, 2] rfl rfl rfl (fun G131 st131 => ?_)
       have st132 := st131.gs (Gs' := [oneB none, oneB none, oneB none, oneB none, G126, oneB none, oneB none, (oneB (some b1)), G131]) rfl
       refine blk_normal ?_
       have st133 := st132.unm (s := 2) 7 rfl rfl iI [0, 3] rfl
       have st134 := st133.unm (s := 3) 8 rfl rfl iI [0, 2] rfl
       refine st134.thin (s := 3) (o2 := (Ow.box (owTree (Ow.row 61 (Ow.frz (α := File)))))) 8 (thin_box (thin_via thin_row)) rfl rfl (by simp) iI [] rfl [0, 2] rfl rfl (fun G135 M135 st135 => ?_)
       refine then_normal ?_
       obtain rfl := Option.some.inj h111
       exact ⟨_, _, _, _, _, _, _, _, _, _, st135.sel [] rfl [(0, 4), (2, 7), (3, 8)] rfl ⟨iI, ⟨iI, ⟨iI, trivial⟩⟩⟩⟩
     ·
      refine st92.sq (
       sc rfl (oCI rfl (tp rfl) cI) <|
       sc rfl (oA rfl (tp rfl)) <| .nil) [41] rfl [(0, 4), (2, 7), (3, 8)] rfl ⟨iI, ⟨iI, ⟨iI, trivial⟩⟩⟩ (fun a136 w136 st136 => ?_)
      refine st136.cs (c := 41) rfl h94 (fun c137 h137 => ?_) (fun c138 h138 => ?_)
      ·
       refine st136.hdR (s := 3) 8 true (fun _ => ((PV.root.box rfl).fld owTree.f0)) rfl rfl iI [0, 2] rfl (fun g139 A139 c139 hA139 st139 => ?_)
       refine st139.held (fun w => w.cell? ⟨b8, 0, none⟩ = some (.slice A139 (v5.2.files.length) c139)) Tryz_mixed (fun w140 st140 => ?_)
       refine st140.tk (i := 0) rfl rfl (by decide +kernel) (by decide +kernel) (by decide +kernel) (fun _ _ _ h => h) (st140.cellS (sb := 3) rfl (.head _) rfl rfl) (yFa rfl kF30_0 (st140.st.has 3 _ rfl).1) (fun a141 st141 => ?_)
       refine st141.tk (i := 1) rfl rfl (by decide +kernel) (by decide +kernel) (by decide +kernel) (fun _ _ _ h => h) (st141.cellS (sb := 3) rfl (.head _) rfl rfl) (yLd rfl kT28 (st141.st.has 43 _ rfl) (fun _ h => h)) (fun a142 st142 => ?_)
       refine st142.tk (i := 2) rfl rfl (by decide +kernel) (by decide +kernel) (by decide +kernel) (fun _ _ _ h => h) (st142.cellS (sb := 3) rfl (.head _) rfl rfl) (yFa rfl kF30_0 (st142.st.has 3 _ rfl).1) (fun a143 st143 => ?_)
       refine st143.tk (i := 3) rfl rfl (by decide +kernel) (by decide +kernel) (by decide +kernel) (fun _ _ _ h => h) (st143.cellS (sb := 3) rfl (.head _) rfl rfl) (yLd rfl kT28 (st143.st.has 45 _ rfl) (fun _ h => h)) (fun a144 st144 => ?_)
       refine st144.tkB (i := 7) (parts := [(0, .const (.int .i64 9))]) (ns := [1, 1, 1, 1, 1]) (zs := zpStmt) rfl rfl (by decide +kernel) (by decide +kernel) (by decide +kernel) (fun _ _ _ _ h => h) (st144.cellS (sb := 3) rfl (.head _) rfl rfl) rfl rfl kB64 kC64 (fun w a hl => by
 intro p hp; simp only [List.mem_cons, List.not_mem_nil, or_false] at hp
 rcases hp with rfl
 ·
  exact ⟨by decide, rfl⟩) (fun w a hl => Stmt.parts (x := (⟨(9 : Int), ⟨[]⟩, 0, ⟨[]⟩, 0⟩ : Stmt)) (OpdR.cells cI hl) zero_str ⟨rfl, trivial⟩ zero_str ⟨rfl, trivial⟩) (fun a145 st145 => ?_)
       refine st145.mvN (s := 46) (sb := 3) 8 5 ((PV.root.box rfl).fld owTree.f0) (.head _) rfl (fits_one rfl rfl) rfl rfl (by simp) (by simp) (by decide) rfl iI [41, 43, 44, 45, 50] rfl [0, 2] rfl rfl rfl rfl (by decide) (fun G146 H146 st146 => ?_)
       obtain ⟨v147, p147, h167⟩ := bs h137
       obtain ⟨v158, p158, h168⟩ := bs h167
       obtain ⟨v161, p161, h169⟩ := bs h168
       refine aH2 (i := 4) (j := 8) (by decide +kernel) rfl rfl ?_ ?_
       ·
        refine st146.seg 1 (sc rfl (xIaN rfl kS28 rfl cI (fun h => hA139 h rfl) p147) <| .nil) [44, 47, 50] rfl [(0, 4), (2, 7), (3, 8), (46, 5)] rfl ⟨iI, ⟨iI, ⟨iI, ⟨iI, trivial⟩⟩⟩⟩ (fun a170 w170 st170 => ?_)
        refine aHN (st170.hkS (sb := 3) rfl) ?_
        refine aH2 (i := 5) (j := 8) (by decide +kernel) rfl rfl ?_ ?_
        ·
         refine st170.seg 1 (sc rfl (xFa rfl kF61_5 (tp rfl)) <| .nil) [44, 48, 50] rfl [(0, 4), (2, 7), (3, 8), (46, 5)] rfl ⟨iI, ⟨iI, ⟨iI, ⟨iI, trivial⟩⟩⟩⟩ (fun a171 w171 st171 => ?_)
         refine aHN (st171.hkS (sb := 3) rfl) ?_
         refine aH2 (i := 6) (j := 8) (by decide +kernel) rfl rfl ?_ ?_
         ·
          refine st171.hdR (s := 46) 5 true (fun _ => ((PV.root.row rfl (fun h => hA139 h rfl) p147).fld owFile.f5)) rfl rfl iI [0, 2, 3] rfl (fun g172 A172 c172 hA172 st172 => ?_)
          refine st172.seg 1 (sc rfl (xLc (sb := 46) (.head _) rfl rfl rfl kT59 (tp rfl) rfl) <| .nil) [44, 49, 50] rfl [(0, 4), (2, 7), (3, 8), (46, 5)] rfl ⟨iI, ⟨iI, ⟨iI, ⟨iI, trivial⟩⟩⟩⟩ (fun a173 w173 st173 => ?_)
          refine aHN (st173.hkS (sb := 3) rfl) ?_
          refine aH1 (i := 8) (by decide +kernel) rfl ?_
          refine st173.seg 1 (sc rfl (op_lit (opds := [.tmp 50]) rfl kS59 kY59 rfl rfl (by decide) (.cons (tp rfl) .nil)) <| .nil) [44, 49, 51] rfl [(0, 4), (2, 7), (3, 8), (46, 5)] rfl ⟨iI, ⟨iI, ⟨iI, ⟨iI, trivial⟩⟩⟩⟩ (fun a174 w174 st174 => ?_)
          refine aHN (st174.hkS (sb := 3) rfl) ?_
          refine aH1 (i := 9) (by decide +kernel) rfl ?_
          refine st174.mvG (s := 49) (sb := 46) 5 6 ((PV.root.row rfl (fun h => hA139 h rfl) p147).fld owFile.f5) (.head _) rfl (fits_one rfl rfl) rfl (by simp) (by simp) (by decide) rfl iI [44, 51] rfl [0, 2, 3] rfl rfl rfl rfl (fun G176 H176 st176 => ?_)
          have st177 := st176.gs (Gs' := [oneB none, oneB none, oneB none, oneB none, G19, G176, H176, (oneB (some b1)), G146]) rfl
          refine st177.tipR (s := 49) 6 rfl rfl (by simp) iI [0, 2, 3, 46] rfl rfl (fun g178 st178 => ?_)
          refine st178.app 6 rfl rfl kE59 rfl rfl rfl row_dt p158 [44] rfl [0, 2, 3, 46] rfl rfl (fun g179 M179 a179 w179 st179 => ?_)
          have st180 := st179.gs (Gs' := [oneB none, oneB none, oneB none, oneB none, G19, G176, oneB g179, (oneB (some b1)), G146]) rfl
          refine aHN (st180.hkS (sb := 3) rfl) ?_
          refine aH1 (i := 10) (by decide +kernel) rfl ?_
          refine st180.seg 1 (sc rfl (xIa (g := g139) rfl kS28 (tp rfl) cI rfl (fun h => hA139 h rfl) p161) <| .nil) [53] rfl [(0, 4), (2, 7), (3, 8), (46, 5), (52, 6)] rfl ⟨iI, ⟨iI, ⟨iI, ⟨iI, ⟨iI, trivial⟩⟩⟩⟩⟩ (fun a181 w181 st181 => ?_)
          refine aHN (st181.hkS (sb := 3) rfl) ?_
          refine aH1 (i := 11) (by decide +kernel) rfl ?_
          refine st181.seg 1 (sc rfl (xFa rfl kF61_5 (tp rfl)) <| .nil) [54] rfl [(0, 4), (2, 7), (3, 8), (46, 5), (52, 6)] rfl ⟨iI, ⟨iI, ⟨iI, ⟨iI, ⟨iI, trivial⟩⟩⟩⟩⟩ (fun a182 w182 st182 => ?_)
          refine aHN (st182.hkS (sb := 3) rfl) ?_
          refine aH1 (i := 12) (by decide +kernel) rfl ?_
          have st184 := st182.tipW (s := 52) 6 rfl rfl iI [0, 2, 3, 46] rfl
          refine st184.stH (sb := 46) (tv := 52) 5 6 rfl rfl rfl kT59 (by simp) (by simp) (by decide) (tp rfl) rfl rfl iI iI [] rfl [0, 2, 3] rfl rfl rfl (fun G183 w183 st183 => ?_)
          have st185 := st183.gs (Gs' := [oneB none, oneB none, oneB none, oneB none, G19, G183, oneB none, (oneB (some b1)), G146]) rfl
          refine aHN (st185.hkS (sb := 3) rfl) ?_
          refine aH0 (by decide +kernel) ?_
          refine st185.stG (s := 46) (sb := 3) 8 5 rfl (by simp) (by simp) (by decide) rfl rfl iI iI [] rfl [0, 2] rfl rfl rfl (fun G186 st186 => ?_)
          have st187 := st186.gs (Gs' := [oneB none, oneB none, oneB none, oneB none, G19, oneB none, oneB none, (oneB (some b1)), G186]) rfl
          refine blk_normal ?_
          have st188 := st187.unm (s := 2) 7 rfl rfl iI [0, 3] rfl
          have st189 := st188.unm (s := 3) 8 rfl rfl iI [0, 2] rfl
          refine st189.thin (s := 3) (o2 := (Ow.box (owTree (Ow.row 61 (Ow.frz (α := File)))))) 8 (thin_box (thin_via thin_row)) rfl rfl (by simp) iI [] rfl [0, 2] rfl rfl (fun G190 M190 st190 => ?_)
          refine then_normal ?_
          obtain rfl := Option.some.inj h169
          exact ⟨_, _, _, _, _, _, _, _, _, _, st190.sel [] rfl [(0, 4), (2, 7), (3, 8)] rfl ⟨iI, ⟨iI, ⟨iI, trivial⟩⟩⟩⟩
         ·
          refine st171.seg 1 (sc rfl (op_lit (opds := [.tmp 50]) rfl kS59 kY59 rfl rfl (by decide) (.cons (tp rfl) .nil)) <| .nil) [44, 48, 51] rfl [(0, 4), (2, 7), (3, 8), (46, 5)] rfl ⟨iI, ⟨iI, ⟨iI, ⟨iI, trivial⟩⟩⟩⟩ (fun a191 w191 st191 => ?_)
          refine aHN (st191.hkS (sb := 3) rfl) ?_
          refine aH1 (i := 6) (by decide +kernel) rfl ?_
          refine st191.hdR (s := 46) 5 true (fun _ => ((PV.root.row rfl (fun h => hA139 h rfl) p147).fld owFile.f5)) rfl rfl iI [0, 2, 3] rfl (fun g192 A192 c192 hA192 st192 => ?_)
          refine st192.seg 1 (sc rfl (xLc (sb := 46) (.head _) rfl rfl rfl kT59 (tp rfl) rfl) <| .nil) [44, 49, 51] rfl [(0, 4), (2, 7), (3, 8), (46, 5)] rfl ⟨iI, ⟨iI, ⟨iI, ⟨iI, trivial⟩⟩⟩⟩ (fun a193 w193 st193 => ?_)
          refine aHN (st193.hkS (sb := 3) rfl) ?_
          refine aH1 (i := 9) (by decide +kernel) rfl ?_
          refine st193.mvG (s := 49) (sb := 46) 5 6 ((PV.root.row rfl (fun h => hA139 h rfl) p147).fld owFile.f5) (.head _) rfl (fits_one rfl rfl) rfl (by simp) (by simp) (by decide) rfl iI [44, 51] rfl [0, 2, 3] rfl rfl rfl rfl (fun G195 H195 st195 => ?_)
          have st196 := st195.gs (Gs' := [oneB none, oneB none, oneB none, oneB none, G19, G195, H195, (oneB (some b1)), G146]) rfl
          refine st196.tipR (s := 49) 6 rfl rfl (by simp) iI [0, 2, 3, 46] rfl rfl (fun g197 st197 => ?_)
          refine st197.app 6 rfl rfl kE59 rfl rfl rfl row_dt p158 [44] rfl [0, 2, 3, 46] rfl rfl (fun g198 M198 a198 w198 st198 => ?_)
          have st199 := st198.gs (Gs' := [oneB none, oneB none, oneB none, oneB none, G19, G195, oneB g198, (oneB (some b1)), G146]) rfl
          refine aHN (st199.hkS (sb := 3) rfl) ?_
          refine aH1 (i := 10) (by decide +kernel) rfl ?_
          refine st199.seg 1 (sc rfl (xIa (g := g139) rfl kS28 (tp rfl) cI rfl (fun h => hA139 h rfl) p161) <| .nil) [53] rfl [(0, 4), (2, 7), (3, 8), (46, 5), (52, 6)] rfl ⟨iI, ⟨iI, ⟨iI, ⟨iI, ⟨iI, trivial⟩⟩⟩⟩⟩ (fun a200 w200 st200 => ?_)
          refine aHN (st200.hkS (sb := 3) rfl) ?_
          refine aH1 (i := 11) (by decide +kernel) rfl ?_
          refine st200.seg 1 (sc rfl (xFa rfl kF61_5 (tp rfl)) <| .nil) [54] rfl [(0, 4), (2, 7), (3, 8), (46, 5), (52, 6)] rfl ⟨iI, ⟨iI, ⟨iI, ⟨iI, ⟨iI, trivial⟩⟩⟩⟩⟩ (fun a201 w201 st201 => ?_)
          refine aHN (st201.hkS (sb := 3) rfl) ?_
          refine aH1 (i := 12) (by decide +kernel) rfl ?_
          have st203 := st201.tipW (s := 52) 6 rfl rfl iI [0, 2, 3, 46] rfl
          refine st203.stH (sb := 46) (tv := 52) 5 6 rfl rfl rfl kT59 (by simp) (by simp) (by decide) (tp rfl) rfl rfl iI iI [] rfl [0, 2, 3] rfl rfl rfl (fun G202 w202 st202 => ?_)
          have st204 := st202.gs (Gs' := [oneB none, oneB none, oneB none, oneB none, G19, G202, oneB none, (oneB (some b1)), G146]) rfl
          refine aHN (st204.hkS (sb := 3) rfl) ?_
          refine aH0 (by decide +kernel) ?_
          refine st204.stG (s := 46) (sb := 3) 8 5 rfl (by simp) (by simp) (by decide) rfl rfl iI iI [] rfl [0, 2] rfl rfl rfl (fun G205 st205 => ?_)
          have st206 := st205.gs (Gs' := [oneB none, oneB none, oneB none, oneB none, G19, oneB none, oneB none, (oneB (some b1)), G205]) rfl
          refine blk_normal ?_
          have st207 := st206.unm (s := 2) 7 rfl rfl iI [0, 3] rfl
          have st208 := st207.unm (s := 3) 8 rfl rfl iI [0, 2] rfl
          refine st208.thin (s := 3) (o2 := (Ow.box (owTree (Ow.row 61 (Ow.frz (α := File)))))) 8 (thin_box (thin_via thin_row)) rfl rfl (by simp) iI [] rfl [0, 2] rfl rfl (fun G209 M209 st209 => ?_)
          refine then_normal ?_
          obtain rfl := Option.some.inj h169
          exact ⟨_, _, _, _, _, _, _, _, _, _, st209.sel [] rfl [(0, 4), (2, 7), (3, 8)] rfl ⟨iI, ⟨iI, ⟨iI, trivial⟩⟩⟩⟩
        ·
         refine st170.seg 1 (sc rfl (op_lit (opds := [.tmp 50]) rfl kS59 kY59 rfl rfl (by decide) (.cons (tp rfl) .nil)) <| .nil) [44, 47, 51] rfl [(0, 4), (2, 7), (3, 8), (46, 5)] rfl ⟨iI, ⟨iI, ⟨iI, ⟨iI, trivial⟩⟩⟩⟩ (fun a210 w210 st210 => ?_)
         refine aHN (st210.hkS (sb := 3) rfl) ?_
         refine aH1 (i := 5) (by decide +kernel) rfl ?_
         refine st210.seg 1 (sc rfl (xFa rfl kF61_5 (tp rfl)) <| .nil) [44, 48, 51] rfl [(0, 4), (2, 7), (3, 8), (46, 5)] rfl ⟨iI, ⟨iI, ⟨iI, ⟨iI, trivial⟩⟩⟩⟩ (fun a211 w211 st211 => ?_)
         refine aHN (st211.hkS (sb := 3) rfl) ?_
         refine aH1 (i := 6) (by decide +kernel) rfl ?_
         refine st211.hdR (s := 46) 5 true (fun _ => ((PV.root.row rfl (fun h => hA139 h rfl) p147).fld owFile.f5)) rfl rfl iI [0, 2, 3] rfl (fun g212 A212 c212 hA212 st212 => ?_)
         refine st212.seg 1 (sc rfl (xLc (sb := 46) (.head _) rfl rfl rfl kT59 (tp rfl) rfl) <| .nil) [44, 49, 51] rfl [(0, 4), (2, 7), (3, 8), (46, 5)] rfl ⟨iI, ⟨iI, ⟨iI, ⟨iI, trivial⟩⟩⟩⟩ (fun a213 w213 st213 => ?_)
         refine aHN (st213.hkS (sb := 3) rfl) ?_
         refine aH1 (i := 9) (by decide +kernel) rfl ?_
         refine st213.mvG (s := 49) (sb := 46) 5 6 ((PV.root.row rfl (fun h => hA139 h rfl) p147).fld owFile.f5) (.head _) rfl (fits_one rfl rfl) rfl (by simp) (by simp) (by decide) rfl iI [44, 51] rfl [0, 2, 3] rfl rfl rfl rfl (fun G215 H215 st215 => ?_)
         have st216 := st215.gs (Gs' := [oneB none, oneB none, oneB none, oneB none, G19, G215, H215, (oneB (some b1)), G146]) rfl
         refine st216.tipR (s := 49) 6 rfl rfl (by simp) iI [0, 2, 3, 46] rfl rfl (fun g217 st217 => ?_)
         refine st217.app 6 rfl rfl kE59 rfl rfl rfl row_dt p158 [44] rfl [0, 2, 3, 46] rfl rfl (fun g218 M218 a218 w218 st218 => ?_)
         have st219 := st218.gs (Gs' := [oneB none, oneB none, oneB none, oneB none, G19, G215, oneB g218, (oneB (some b1)), G146]) rfl
         refine aHN (st219.hkS (sb := 3) rfl) ?_
         refine aH1 (i := 10) (by decide +kernel) rfl ?_
         refine st219.seg 1 (sc rfl (xIa (g := g139) rfl kS28 (tp rfl) cI rfl (fun h => hA139 h rfl) p161) <| .nil) [53] rfl [(0, 4), (2, 7), (3, 8), (46, 5), (52, 6)] rfl ⟨iI, ⟨iI, ⟨iI, ⟨iI, ⟨iI, trivial⟩⟩⟩⟩⟩ (fun a220 w220 st220 => ?_)
         refine aHN (st220.hkS (sb := 3) rfl) ?_
         refine aH1 (i := 11) (by decide +kernel) rfl ?_
         refine st220.seg 1 (sc rfl (xFa rfl kF61_5 (tp rfl)) <| .nil) [54] rfl [(0, 4), (2, 7), (3, 8), (46, 5), (52, 6)] rfl ⟨iI, ⟨iI, ⟨iI, ⟨iI, ⟨iI, trivial⟩⟩⟩⟩⟩ (fun a221 w221 st221 => ?_)
         refine aHN (st221.hkS (sb := 3) rfl) ?_
         refine aH1 (i := 12) (by decide +kernel) rfl ?_
         have st223 := st221.tipW (s := 52) 6 rfl rfl iI [0, 2, 3, 46] rfl
         refine st223.stH (sb := 46) (tv := 52) 5 6 rfl rfl rfl kT59 (by simp) (by simp) (by decide) (tp rfl) rfl rfl iI iI [] rfl [0, 2, 3] rfl rfl rfl (fun G222 w222 st222 => ?_)
         have st224 := st222.gs (Gs' := [oneB none, oneB none, oneB none, oneB none, G19, G222, oneB none, (oneB (some b1)), G146]) rfl
         refine aHN (st224.hkS (sb := 3) rfl) ?_
         refine aH0 (by decide +kernel) ?_
         refine st224.stG (s := 46) (sb := 3) 8 5 rfl (by simp) (by simp) (by decide) rfl rfl iI iI [] rfl [0, 2] rfl rfl rfl (fun G225 st225 => ?_)
         have st226 := st225.gs (Gs' := [oneB none, oneB none, oneB none, oneB none, G19, oneB none, oneB none, (oneB (some b1)), G225]) rfl
         refine blk_normal ?_
         have st227 := st226.unm (s := 2) 7 rfl rfl iI [0, 3] rfl
         have st228 := st227.unm (s := 3) 8 rfl rfl iI [0, 2] rfl
         refine st228.thin (s := 3) (o2 := (Ow.box (owTree (Ow.row 61 (Ow.frz (α := File)))))) 8 (thin_box (thin_via thin_row)) rfl rfl (by simp) iI [] rfl [0, 2] rfl rfl (fun G229 M229 st229 => ?_)
         refine then_normal ?_
         obtain rfl := Option.some.inj h169
         exact ⟨_, _, _, _, _, _, _, _, _, _, st229.sel [] rfl [(0, 4), (2, 7), (3, 8)] rfl ⟨iI, ⟨iI, ⟨iI, trivial⟩⟩⟩⟩
       ·
        refine st146.seg 1 (sc rfl (op_lit (opds := [.tmp 50]) rfl kS59 kY59 rfl rfl (by decide) (.cons (tp rfl) .nil)) <| .nil) [44, 51] rfl [(0, 4), (2, 7), (3, 8), (46, 5)] rfl ⟨iI, ⟨iI, ⟨iI, ⟨iI, trivial⟩⟩⟩⟩ (fun a230 w230 st230 => ?_)
        refine aHN (st230.hkS (sb := 3) rfl) ?_
        refine aH1 (i := 4) (by decide +kernel) rfl ?_
        refine st230.seg 1 (sc rfl (xIaN rfl kS28 rfl cI (fun h => hA139 h rfl) p147) <| .nil) [44, 47, 51] rfl [(0, 4), (2, 7), (3, 8), (46, 5)] rfl ⟨iI, ⟨iI, ⟨iI, ⟨iI, trivial⟩⟩⟩⟩ (fun a231 w231 st231 => ?_)
        refine aHN (st231.hkS (sb := 3) rfl) ?_
        refine aH1 (i := 5) (by decide +kernel) rfl ?_
        refine st231.seg 1 (sc rfl (xFa rfl kF61_5 (tp rfl)) <| .nil) [44, 48, 51] rfl [(0, 4), (2, 7), (3, 8), (46, 5)] rfl ⟨iI, ⟨iI, ⟨iI, ⟨iI, trivial⟩⟩⟩⟩ (fun a232 w232 st232 => ?_)
        refine aHN (st232.hkS (sb := 3) rfl) ?_
        refine aH1 (i := 6) (by decide +kernel) rfl ?_
        refine st232.hdR (s := 46) 5 true (fun _ => ((PV.root.row rfl (fun h => hA139 h rfl) p147).fld owFile.f5)) rfl rfl iI [0, 2, 3] rfl (fun g233 A233 c233 hA233 st233 => ?_)
        refine st233.seg 1 (sc rfl (xLc (sb := 46) (.head _) rfl rfl rfl kT59 (tp rfl) rfl) <| .nil) [44, 49, 51] rfl [(0, 4), (2, 7), (3, 8), (46, 5)] rfl ⟨iI, ⟨iI, ⟨iI, ⟨iI, trivial⟩⟩⟩⟩ (fun a234 w234 st234 => ?_)
        refine aHN (st234.hkS (sb := 3) rfl) ?_
        refine aH1 (i := 9) (by decide +kernel) rfl ?_
        refine st234.mvG (s := 49) (sb := 46) 5 6 ((PV.root.row rfl (fun h => hA139 h rfl) p147).fld owFile.f5) (.head _) rfl (fits_one rfl rfl) rfl (by simp) (by simp) (by decide) rfl iI [44, 51] rfl [0, 2, 3] rfl rfl rfl rfl (fun G236 H236 st236 => ?_)
        have st237 := st236.gs (Gs' := [oneB none, oneB none, oneB none, oneB none, G19, G236, H236, (oneB (some b1)), G146]) rfl
        refine st237.tipR (s := 49) 6 rfl rfl (by simp) iI [0, 2, 3, 46] rfl rfl (fun g238 st238 => ?_)
        refine st238.app 6 rfl rfl kE59 rfl rfl rfl row_dt p158 [44] rfl [0, 2, 3, 46] rfl rfl (fun g239 M239 a239 w239 st239 => ?_)
        have st240 := st239.gs (Gs' := [oneB none, oneB none, oneB none, oneB none, G19, G236, oneB g239, (oneB (some b1)), G146]) rfl
        refine aHN (st240.hkS (sb := 3) rfl) ?_
        refine aH1 (i := 10) (by decide +kernel) rfl ?_
        refine st240.seg 1 (sc rfl (xIa (g := g139) rfl kS28 (tp rfl) cI rfl (fun h => hA139 h rfl) p161) <| .nil) [53] rfl [(0, 4), (2, 7), (3, 8), (46, 5), (52, 6)] rfl ⟨iI, ⟨iI, ⟨iI, ⟨iI, ⟨iI, trivial⟩⟩⟩⟩⟩ (fun a241 w241 st241 => ?_)
        refine aHN (st241.hkS (sb := 3) rfl) ?_
        refine aH1 (i := 11) (by decide +kernel) rfl ?_
        refine st241.seg 1 (sc rfl (xFa rfl kF61_5 (tp rfl)) <| .nil) [54] rfl [(0, 4), (2, 7), (3, 8), (46, 5), (52, 6)] rfl ⟨iI, ⟨iI, ⟨iI, ⟨iI, ⟨iI, trivial⟩⟩⟩⟩⟩ (fun a242 w242 st242 => ?_)
        refine aHN (st242.hkS (sb := 3) rfl) ?_
        refine aH1 (i := 12) (by decide +kernel) rfl ?_
        have st244 := st242.tipW (s := 52) 6 rfl rfl iI [0, 2, 3, 46] rfl
        refine st244.stH (sb := 46) (tv := 52) 5 6 rfl rfl rfl kT59 (by simp) (by simp) (by decide) (tp rfl) rfl rfl iI iI [] rfl [0, 2, 3] rfl rfl rfl (fun G243 w243 st243 => ?_)
        have st245 := st243.gs (Gs' := [oneB none, oneB none, oneB none, oneB none, G19, G243, oneB none, (oneB (some b1)), G146]) rfl
        refine aHN (st245.hkS (sb := 3) rfl) ?_
        refine aH0 (by decide +kernel) ?_
        refine st245.stG (s := 46) (sb := 3) 8 5 rfl (by simp) (by simp) (by decide) rfl rfl iI iI [] rfl [0, 2] rfl rfl rfl (fun G246 st246 => ?_)
        have st247 := st246.gs (Gs' := [oneB none, oneB none, oneB none, oneB none, G19, oneB none, oneB none, (oneB (some b1)), G246]) rfl
        refine blk_normal ?_
        have st248 := st247.unm (s := 2) 7 rfl rfl iI [0, 3] rfl
        have st249 := st248.unm (s := 3) 8 rfl rfl iI [0, 2] rfl
        refine st249.thin (s := 3) (o2 := (Ow.box (owTree (Ow.row 61 (Ow.frz (α := File)))))) 8 (thin_box (thin_via thin_row)) rfl rfl (by simp) iI [] rfl [0, 2] rfl rfl (fun G250 M250 st250 => ?_)
        refine then_normal ?_
        obtain rfl := Option.some.inj h169
        exact ⟨_, _, _, _, _, _, _, _, _, _, st250.sel [] rfl [(0, 4), (2, 7), (3, 8)] rfl ⟨iI, ⟨iI, ⟨iI, trivial⟩⟩⟩⟩
      ·
       refine wp_skip (blk_normal ?_)
       have st251 := st136.unm (s := 2) 7 rfl rfl iI [0, 3] rfl
       have st252 := st251.unm (s := 3) 8 rfl rfl iI [0, 2] rfl
       refine st252.thin (s := 3) (o2 := (Ow.box (owTree (Ow.row 61 (Ow.frz (α := File)))))) 8 (thin_box (thin_via thin_row)) rfl rfl (by simp) iI [41] rfl [0, 2] rfl rfl (fun G253 M253 st253 => ?_)
       refine then_normal ?_
       obtain rfl := Option.some.inj h138
       exact ⟨_, _, _, _, _, _, _, _, _, _, st253.sel [] rfl [(0, 4), (2, 7), (3, 8)] rfl ⟨iI, ⟨iI, ⟨iI, trivial⟩⟩⟩⟩
  ·
   refine wp_skip ?_
   have st254 := st15.unm (s := 2) 7 rfl rfl iI [0, 3] rfl
   have st255 := st254.unm (s := 3) 8 rfl rfl iI [0, 2] rfl
   refine st255.thin (s := 3) (o2 := (Ow.box (owTree (Ow.row 61 (Ow.frz (α := File)))))) 8 (thin_box (thin_via thin_row)) rfl rfl (by simp) iI [9] rfl [0, 2] rfl rfl (fun G256 M256 st256 => ?_)
   refine then_normal ?_
   obtain rfl := Option.some.inj h17
   exact ⟨_, _, _, _, _, _, _, _, _, _, st256.sel [] rfl [(0, 4), (2, 7), (3, 8)] rfl ⟨iI, ⟨iI, ⟨iI, trivial⟩⟩⟩⟩
 ·
  rintro a12 w12 ⟨M12, q12_0, q12_1, q12_2, q12_3, q12_4, q12_5, q12_6, q12_7, q12_8, st12⟩
  have h257 := k12
  refine wp_seq (wp_region_list ?_)
  refine st12.nmB (s := 3) 8 rfl rfl iI [0, 2] rfl (fun b259 st259 => ?_)
  refine st259.ldW (sb := 3) 8 rfl rfl kT30 rfl (by simp) iI [] rfl [0, 2] rfl rfl (fun a258 w258 st258 => ?_)
  refine st258.nmB (s := 2) 7 rfl rfl iI [0, 55] rfl (fun b261 st261 => ?_)
  refine st261.stO (sb := 2) (tv := 55) 7 8 (PV.root.box rfl) rfl rfl rfl kT30 (by simp) (by simp) (by decide) (opd_nm rfl) rfl rfl rfl iI iI [] rfl [0] rfl rfl rfl (fun G260 w260 st260 => ?_)
  have st262 := st260.gs (Gs' := [q12_0, q12_1, q12_2, q12_3, q12_4, q12_5, q12_6, G260, oneB none]) rfl
  refine wpList_nil (then_normal (wp_ret ?_))
  exact st262.rsCO (s := 0) 4 7 rfl kT30 rfl rfl iI iI (by decide) (bxr h257)
end Go.Proofs.YtbnibckkfknpkaaGreatDoor
namespace Go.Proofs.YtbnibckkfknpkaaGreatDoor
open Go.RowKit
set_option maxRecDepth 10000
set_option maxHeartbeats 1600000
theorem kN115 : fnB Tryz.prog 115 = true := by kernel_rfl
theorem kN116 : fnB Tryz.prog 116 = true := by kernel_rfl
theorem kN110 : fnB Tryz.prog 110 = true := by kernel_rfl
theorem kN118 : fnB Tryz.prog 118 = true := by kernel_rfl
def m_spec_nameOf (x0 : Reader) : Option (Reader × Tree × (List Int) × Str) :=
(m_spec_anyTree x0).bind fun v6 =>
(m_spec_anyPath v6.1).bind fun v15 =>
(gO (cmpI .gtr (v6.2.files.length : Int) (0 : Int) == true) (m_spec_reader_pick v15.1 (4 : Int))).bind fun v22 =>
if (cmpI .gtr (v6.2.files.length : Int) (0 : Int) && cmpI .gtr v22.2 (0 : Int)) = true then ((m_spec_reader_pick (if (cmpI .gtr (v6.2.files.length : Int) (0 : Int) == true) = true then v22.1 else v15.1) (v6.2.files.length : Int)).bind fun v41 =>
(atI v6.2.files v41.2).bind fun v44 =>
(m_spec_moduleName v44).bind fun v47 =>
some (v41.1, v6.2, v15.2, v47))
else ((m_spec_anyName (if (cmpI .gtr (v6.2.files.length : Int) (0 : Int) == true) = true then v22.1 else v15.1)).bind fun v90 =>
some (v90.1, v6.2, v15.2, v90.2))
theorem spec_nameOf_w {x0 : Reader} {r : Reader × Tree × (List Int) × Str} (h : m_spec_nameOf x0 = some r) : FnS Tryz.prog 73 (Ow.box (Ow.frz (α := Reader))) ⟨x0⟩ [] ⟨r.1⟩ (.t3 (owTree (Ow.row 61 (Ow.frz (α := File)))) r.2.1 (dt r.2.2.1) (dt r.2.2.2)) := by
 unfold m_spec_nameOf at h
 refine fnSB (fn := Tryz.f73) 3 6 Tryz.func73 rfl (of_decide_eq_true rfl) rfl (fun M G w0 b0 a0 st0 => ?_)
 refine wp_seq (wp_region_list ?_)
 refine st0.alcW (ow := (owTree (Ow.row 61 (Ow.frz (α := File))))) 4 rfl rfl kZ30 (owTree.z Ow.row_z) (by simp) [] rfl [0] rfl rfl (fun b1 M1 a1 w1 st1 => ?_)
 have st2 := st1.gs (Gs' := [oneB none, oneB none, oneB none, G, (oneB (some b1)), oneB none]) rfl
 refine st2.seg 2 (
  sc rfl (oA rfl (opd_nil (α := Int))) <|
  sc rfl (oA rfl (opd_str (by decide))) <| .nil) [] rfl [(0, 3), (2, 4)] rfl ⟨iI, ⟨iI, trivial⟩⟩ (fun a3 w3 st3 => ?_)
 refine wpList_nil (then_normal (wp_seq (wp_region_list ?_)))
 refine st3.seg 1 (
  sc rfl (oM rfl (tp rfl)) <| .nil) [] rfl [(0, 3), (2, 4), (7, 3)] rfl ⟨iI, ⟨iI, ⟨iI, trivial⟩⟩⟩ (fun a4 w4 st4 => ?_)
 obtain ⟨v6, p6, h7⟩ := bs h
 refine st4.cSO (l := []) 3 0 (st4.bkN (s := 0) rfl iI) rfl rfl kN115 ((st4.st.has 7 _ rfl).1.trans (st4.st.has 0 _ rfl).1.symm) (by simp) (by simp) (by decide) .nil (spec_anyTree_w p6) [] rfl [2] rfl rfl rfl rfl (by decide) (fun G5 H5 M5 a5 w5 st5 => ?_)
 have st8 := st5.gs (Gs' := [H5, oneB none, oneB none, G5, (oneB (some b1)), oneB none]) rfl
 refine st8.alcW (ow := (owTree (Ow.row 61 (Ow.frz (α := File))))) 5 rfl rfl kZ30 (owTree.z Ow.row_z) (by simp) [] rfl [0, 2, 8] rfl rfl (fun b9 M9 a9 w9 st9 => ?_)
 have st10 := st9.gs (Gs' := [H5, oneB none, oneB none, G5, (oneB (some b1)), (oneB (some b9))]) rfl
 refine st10.stO (sb := 5) (tv := 8) 5 0 (PV.root.box rfl) rfl rfl rfl kT30 (by simp) (by simp) (by decide) (opd_nm rfl) rfl rfl rfl iI iI [] rfl [0, 2] rfl rfl rfl (fun G11 w11 st11 => ?_)
 have st12 := st11.gs (Gs' := [oneB none, oneB none, oneB none, G5, (oneB (some b1)), G11]) rfl
 refine wpList_nil (then_normal (wp_seq (wp_region_list ?_)))
 refine st12.seg 1 (
  sc rfl (oM rfl (tp rfl)) <| .nil) [] rfl [(0, 3), (2, 4), (5, 5), (9, 3)] rfl ⟨iI, ⟨iI, ⟨iI, ⟨iI, trivial⟩⟩⟩⟩ (fun a13 w13 st13 => ?_)
 obtain ⟨v15, p15, h16⟩ := bs h7
 refine st13.cSF (l := []) 3 (st13.bkN (s := 0) rfl iI) rfl rfl kN116 ((st13.st.has 9 _ rfl).1.trans (st13.st.has 0 _ rfl).1.symm) (by simp) .nil (spec_anyPath_w p15) [] rfl [2, 5] rfl rfl (by decide) (fun G14 M14 a14 w14 st14 => ?_)
 have st17 := st14.gs (Gs' := [oneB none, oneB none, oneB none, G14, (oneB (some b1)), G11]) rfl
 refine st17.seg 1 (
  sc rfl (oA rfl (tp rfl)) <| .nil) [6] rfl [(0, 3), (2, 4), (5, 5)] rfl ⟨iI, ⟨iI, ⟨iI, trivial⟩⟩⟩ (fun a18 w18 st18 => ?_)
 refine wpList_nil (then_normal (wp_seq (wp_seq (wp_region_list ?_))))
 refine st18.hdR (s := 5) 5 true (fun _ => ((PV.root.box rfl).fld owTree.f0)) rfl rfl iI [0, 2] rfl (fun g19 A19 c19 hA19 st19 => ?_)
 refine st19.seg 6 (
  sc rfl (xFa rfl kF30_0 (opd_nm rfl)) <|
  sc rfl (xLc (sb := 5) (.head _) rfl rfl rfl kT28 (tp rfl) rfl) <|
  sc rfl (xLe rfl kL28 (tp rfl)) <|
  sc rfl (oCI rfl (tp rfl) cI) <|
  sc rfl (oM rfl (tp rfl)) <|
  sg rfl rfl (fun hg => oM rfl (opd_nm rfl)) <| .nil) [6, 15, 16] rfl [(0, 3), (2, 4), (5, 5)] rfl ⟨iI, ⟨iI, ⟨iI, trivial⟩⟩⟩ (fun a20 w20 st20 => ?_)
 obtain ⟨v22, p22, h23⟩ := bs h16
 refine st20.cSFgB (sb := 0) (l := [.const (.int .i64 4)]) 3 rfl iI rfl rfl rfl kN117 (fun hg => (st20.st.has 16 _ rfl).1 hg) (by simp) (fun hg => (.cons cI .nil)) (fun hg => spec_reader_pick_w (gh hg p22)) [6, 15] rfl [2, 5] rfl rfl (by decide) (fun G21 M21 a21 w21 st21 => ?_)
 have st24 := st21.gs (Gs' := [oneB none, oneB none, oneB none, G21, (oneB (some b1)), G11]) rfl
 refine st24.seg 2 (
  sg rfl rfl (fun hg => oCI rfl (opd_g hg rfl) cI) <|
  sc rfl (op_and rfl (tp rfl) (opd_tmp rfl)) <| .nil) [6, 19] rfl [(0, 3), (2, 4), (5, 5)] rfl ⟨iI, ⟨iI, ⟨iI, trivial⟩⟩⟩ (fun a25 w25 st25 => ?_)
 refine wpList_nil ?_
 have st26 := st25.ncf (s := 5) 5 rfl rfl iI [0, 2] rfl
 refine then_normal ?_
 refine st26.cs (c := 19) rfl h23 (fun c27 h27 => ?_) (fun c28 h28 => ?_)
 ·
  refine wp_seq ?_
  have st29 := st26.unm (s := 5) 5 rfl rfl iI [0, 2] rfl
  refine st29.opB (s := 5) 5 rfl rfl iI [0, 2] rfl (fun b30 C30 e30 st30 => ?_)
  refine st30.held (fun w => w.heap[b30]? = some (.cells C30 e30 (0, 0))) Tryz_mixed (fun w31 st31 => ?_)
  refine st31.tkO (i := 0) (s := 5) 5 1 rfl rfl (by decide +kernel) (by decide +kernel) (by decide +kernel) (fun _ _ _ _ h => h) rfl iI rfl rfl kT30 rfl (by simp) (by simp) (by decide) [6, 19] rfl [0, 2] rfl rfl rfl rfl (by decide) (fun a32 G32 hz32 st32 => ?_)
  refine st32.tkM (i := 1) (sb := 6) rfl rfl (by decide +kernel) (by decide +kernel) (by decide +kernel) (fun _ _ _ _ h => h) (st32.bcS (s := 5) rfl) rfl rfl rfl rfl (fun a33 st33 => ?_)
  refine st33.tkP (i := 2) (s := 5) rfl rfl (by decide +kernel) (by decide +kernel) (by decide +kernel) (fun _ _ _ _ h => h) rfl rfl kF30_0 rfl (fun a34 st34 => ?_)
  refine st34.tkC (i := 3) (s := 5) (s2 := 22) rfl rfl (by decide +kernel) (by decide +kernel) (by decide +kernel) (fun _ _ _ _ h => h) rfl rfl rfl kT28 rfl hz32 (by decide) (fun a35 st35 => ?_)
  obtain ⟨g35, A35, c35, hb35, hA35⟩ := st35.hdV (s := 20) (PV.root.fld owTree.f0) rfl
  refine st35.tkP (i := 5) (s := 5) rfl rfl (by decide +kernel) (by decide +kernel) (by decide +kernel) (fun _ _ _ _ h => h) rfl rfl kF30_0 rfl (fun a36 st36 => ?_)
  refine st36.tkC (i := 6) (s := 5) (s2 := 25) rfl rfl (by decide +kernel) (by decide +kernel) (by decide +kernel) (fun _ _ _ _ h => h) rfl rfl rfl kT28 rfl hz32 (by decide) (fun a37 st37 => ?_)
  obtain ⟨g37, A37, c37, hb37, hA37⟩ := st37.hdV (s := 20) (PV.root.fld owTree.f0) rfl
  obtain ⟨v41, p41, h54⟩ := bs h27
  obtain ⟨v44, p44, h55⟩ := bs h54
  obtain ⟨v47, p47, h56⟩ := bs h55
  refine aH2 (i := 4) (j := 7) (by decide +kernel) rfl rfl ?_ ?_
  ·
   refine st37.seg 1 (sc rfl (oM rfl (tp rfl)) <| .nil) [21, 23, 26] rfl [(0, 3), (2, 4), (5, 5), (20, 1), (24, 3)] rfl ⟨iI, ⟨iI, ⟨iI, ⟨iI, ⟨iI, trivial⟩⟩⟩⟩⟩ (fun a57 w57 st57 => ?_)
   refine aHN (st57.bcS (s := 5) rfl) ?_
   refine aH1 (i := 7) (by decide +kernel) rfl ?_
   refine st57.seg 1 (sc rfl (xLe rfl kL28 (opd_eq hb37 (tp rfl))) <| .nil) [21, 23, 27] rfl [(0, 3), (2, 4), (5, 5), (20, 1), (24, 3)] rfl ⟨iI, ⟨iI, ⟨iI, ⟨iI, ⟨iI, trivial⟩⟩⟩⟩⟩ (fun a58 w58 st58 => ?_)
   refine aHN (st58.bcS (s := 5) rfl) ?_
   refine aH1 (i := 8) (by decide +kernel) rfl ?_
   refine st58.cSF (l := [.tmp 27]) 3 (st58.bkN (s := 0) rfl iI) rfl rfl kN117 ((st58.st.has 24 _ rfl).1.trans (st58.st.has 0 _ rfl).1.symm) (by simp) (.cons (tp rfl) .nil) (spec_reader_pick_w p41) [21, 23] rfl [2, 5, 20] rfl rfl (by decide) (fun G59 M59 a59 w59 st59 => ?_)
   have st60 := st59.gs (Gs' := [oneB none, G32, oneB none, G59, (oneB (some b1)), (oneB (some b30))]) rfl
   refine aHN (st60.bcS (s := 5) rfl) ?_
   refine aH1 (i := 9) (by decide +kernel) rfl ?_
   refine st60.seg 1 (sc rfl (xIa (g := g35) rfl kS28 (opd_eq hb35 (tp rfl)) (tp rfl) rfl hA35 p44) <| .nil) [21, 29] rfl [(0, 3), (2, 4), (5, 5), (20, 1)] rfl ⟨iI, ⟨iI, ⟨iI, ⟨iI, trivial⟩⟩⟩⟩ (fun a61 w61 st61 => ?_)
   refine aHN (st61.bcS (s := 5) rfl) ?_
   refine aH1 (i := 10) (by decide +kernel) rfl ?_
   refine st61.seg 1 (sc rfl (xLf (sb := 20) ((PV.root.fld owTree.f0).row hb35 hA35 p44) rfl kT61 (tp rfl) rfl) <| .nil) [21, 30] rfl [(0, 3), (2, 4), (5, 5), (20, 1)] rfl ⟨iI, ⟨iI, ⟨iI, ⟨iI, trivial⟩⟩⟩⟩ (fun a62 w62 st62 => ?_)
   refine aHN (st62.bcS (s := 5) rfl) ?_
   refine aH1 (i := 11) (by decide +kernel) rfl ?_
   refine st62.seg 1 (sc rfl (op_call (l := [.tmp 30]) rfl kN110 (.cons (tp rfl) .nil) (spec_moduleName_w p47)) <| .nil) [21, 31] rfl [(0, 3), (2, 4), (5, 5), (20, 1)] rfl ⟨iI, ⟨iI, ⟨iI, ⟨iI, trivial⟩⟩⟩⟩ (fun a63 w63 st63 => ?_)
   refine aHN (st63.bcS (s := 5) rfl) ?_
   refine aH1 (i := 12) (by decide +kernel) rfl ?_
   have st64 := st63.unm (s := 20) 1 rfl rfl iI [0, 2, 5] rfl
   refine st64.stO (sb := 2) (tv := 20) 4 1 (PV.root.box rfl) rfl rfl rfl kT30 (by simp) (by simp) (by decide) (opd_nm rfl) rfl rfl rfl iI iI [21, 31] rfl [0, 5] rfl rfl rfl (fun G65 w65 st65 => ?_)
   have st66 := st65.gs (Gs' := [oneB none, oneB none, oneB none, G59, G65, (oneB (some b30))]) rfl
   refine aHN (st66.bcS (s := 5) rfl) ?_
   refine aH1 (i := 13) (by decide +kernel) rfl ?_
   refine st66.seg 1 (sc rfl (oA rfl (tp rfl)) <| .nil) [3, 31] rfl [(0, 3), (2, 4), (5, 5)] rfl ⟨iI, ⟨iI, ⟨iI, trivial⟩⟩⟩ (fun a67 w67 st67 => ?_)
   refine aHN (st67.bcS (s := 5) rfl) ?_
   refine aH1 (i := 14) (by decide +kernel) rfl ?_
   refine st67.seg 1 (sc rfl (oA rfl (tp rfl)) <| .nil) [3, 4] rfl [(0, 3), (2, 4), (5, 5)] rfl ⟨iI, ⟨iI, ⟨iI, trivial⟩⟩⟩ (fun a68 w68 st68 => ?_)
   refine aHN (st68.bcS (s := 5) rfl) ?_
   refine aH0 (by decide +kernel) ?_
   refine then_normal ?_
   refine wp_ret (thn_ret ?_)
   obtain rfl := Option.some.inj h56
   exact st68.rs3O (s := 0) 3 4 rfl kT30 rfl rfl rfl rfl ⟨rfl, rfl⟩ iI iI (by decide) ⟨rfl, rfl⟩
  ·
   refine st37.seg 1 (sc rfl (xLe rfl kL28 (opd_eq hb37 (tp rfl))) <| .nil) [21, 23, 27] rfl [(0, 3), (2, 4), (5, 5), (20, 1)] rfl ⟨iI, ⟨iI, ⟨iI, ⟨iI, trivial⟩⟩⟩⟩ (fun a70 w70 st70 => ?_)
   refine aHN (st70.bcS (s := 5) rfl) ?_
   refine aH1 (i := 4) (by decide +kernel) rfl ?_
   refine st70.seg 1 (sc rfl (oM rfl (tp rfl)) <| .nil) [21, 23, 27] rfl [(0, 3), (2, 4), (5, 5), (20, 1), (24, 3)] rfl ⟨iI, ⟨iI, ⟨iI, ⟨iI, ⟨iI, trivial⟩⟩⟩⟩⟩ (fun a71 w71 st71 => ?_)
   refine aHN (st71.bcS (s := 5) rfl) ?_
   refine aH1 (i := 8) (by decide +kernel) rfl ?_
   refine st71.cSF (l := [.tmp 27]) 3 (st71.bkN (s := 0) rfl iI) rfl rfl kN117 ((st71.st.has 24 _ rfl).1.trans (st71.st.has 0 _ rfl).1.symm) (by simp) (.cons (tp rfl) .nil) (spec_reader_pick_w p41) [21, 23] rfl [2, 5, 20] rfl rfl (by decide) (fun G72 M72 a72 w72 st72 => ?_)
   have st73 := st72.gs (Gs' := [oneB none, G32, oneB none, G72, (oneB (some b1)), (oneB (some b30))]) rfl
   refine aHN (st73.bcS (s := 5) rfl) ?_
   refine aH1 (i := 9) (by decide +kernel) rfl ?_
   refine st73.seg 1 (sc rfl (xIa (g := g35) rfl kS28 (opd_eq hb35 (tp rfl)) (tp rfl) rfl hA35 p44) <| .nil) [21, 29] rfl [(0, 3), (2, 4), (5, 5), (20, 1)] rfl ⟨iI, ⟨iI, ⟨iI, ⟨iI, trivial⟩⟩⟩⟩ (fun a74 w74 st74 => ?_)
   refine aHN (st74.bcS (s := 5) rfl) ?_
   refine aH1 (i := 10) (by decide +kernel) rfl ?_
   refine st74.seg 1 (sc rfl (xLf (sb := 20) ((PV.root.fld owTree.f0).row hb35 hA35 p44) rfl kT61 (tp rfl) rfl) <| .nil) [21, 30] rfl [(0, 3), (2, 4), (5, 5), (20, 1)] rfl ⟨iI, ⟨iI, ⟨iI, ⟨iI, trivial⟩⟩⟩⟩ (fun a75 w75 st75 => ?_)
   refine aHN (st75.bcS (s := 5) rfl) ?_
   refine aH1 (i := 11) (by decide +kernel) rfl ?_
   refine st75.seg 1 (sc rfl (op_call (l := [.tmp 30]) rfl kN110 (.cons (tp rfl) .nil) (spec_moduleName_w p47)) <| .nil) [21, 31] rfl [(0, 3), (2, 4), (5, 5), (20, 1)] rfl ⟨iI, ⟨iI, ⟨iI, ⟨iI, trivial⟩⟩⟩⟩ (fun a76 w76 st76 => ?_)
   refine aHN (st76.bcS (s := 5) rfl) ?_
   refine aH1 (i := 12) (by decide +kernel) rfl ?_
   have st77 := st76.unm (s := 20) 1 rfl rfl iI [0, 2, 5] rfl
   refine st77.stO (sb := 2) (tv := 20) 4 1 (PV.root.box rfl) rfl rfl rfl kT30 (by simp) (by simp) (by decide) (opd_nm rfl) rfl rfl rfl iI iI [21, 31] rfl [0, 5] rfl rfl rfl (fun G78 w78 st78 => ?_)
   have st79 := st78.gs (Gs' := [oneB none, oneB none, oneB none, G72, G78, (oneB (some b30))]) rfl
   refine aHN (st79.bcS (s := 5) rfl) ?_
   refine aH1 (i := 13) (by decide +kernel) rfl ?_
   refine st79.seg 1 (sc rfl (oA rfl (tp rfl)) <| .nil) [3, 31] rfl [(0, 3), (2, 4), (5, 5)] rfl ⟨iI, ⟨iI, ⟨iI, trivial⟩⟩⟩ (fun a80 w80 st80 => ?_)
   refine aHN (st80.bcS (s := 5) rfl) ?_
   refine aH1 (i := 14) (by decide +kernel) rfl ?_
   refine st80.seg 1 (sc rfl (oA rfl (tp rfl)) <| .nil) [3, 4] rfl [(0, 3), (2, 4), (5, 5)] rfl ⟨iI, ⟨iI, ⟨iI, trivial⟩⟩⟩ (fun a81 w81 st81 => ?_)
   refine aHN (st81.bcS (s := 5) rfl) ?_
   refine aH0 (by decide +kernel) ?_
   refine then_normal ?_
   refine wp_ret (thn_ret ?_)
   obtain rfl := Option.some.inj h56
   exact st81.rs3O (s := 0) 3 4 rfl kT30 rfl rfl rfl rfl ⟨rfl, rfl⟩ iI iI (by decide) ⟨rfl, rfl⟩
 ·
  refine wp_skip (then_normal (wp_seq ?_))
  have st83 := st26.unm (s := 5) 5 rfl rfl iI [0, 2] rfl
  refine st83.opB (s := 5) 5 rfl rfl iI [0, 2] rfl (fun b84 C84 e84 st84 => ?_)
  refine st84.held (fun w => w.heap[b84]? = some (.cells C84 e84 (0, 0))) Tryz_mixed (fun w85 st85 => ?_)
  refine st85.tkO (i := 0) (s := 5) 5 2 rfl rfl (by decide +kernel) (by decide +kernel) (by decide +kernel) (fun _ _ _ _ h => h) rfl iI rfl rfl kT30 rfl (by simp) (by simp) (by decide) [6, 19] rfl [0, 2] rfl rfl rfl rfl (by decide) (fun a86 G86 hz86 st86 => ?_)
  refine st86.tkM (i := 1) (sb := 6) rfl rfl (by decide +kernel) (by decide +kernel) (by decide +kernel) (fun _ _ _ _ h => h) (st86.bcS (s := 5) rfl) rfl rfl rfl rfl (fun a87 st87 => ?_)
  obtain ⟨v90, p90, h98⟩ := bs h28
  refine aH1 (i := 2) (by decide +kernel) rfl ?_
  refine st87.seg 1 (sc rfl (oM rfl (tp rfl)) <| .nil) [33] rfl [(0, 3), (2, 4), (5, 5), (32, 2), (34, 3)] rfl ⟨iI, ⟨iI, ⟨iI, ⟨iI, ⟨iI, trivial⟩⟩⟩⟩⟩ (fun a99 w99 st99 => ?_)
  refine aHN (st99.bcS (s := 5) rfl) ?_
  refine aH1 (i := 3) (by decide +kernel) rfl ?_
  refine st99.cSF (l := []) 3 (st99.bkN (s := 0) rfl iI) rfl rfl kN118 ((st99.st.has 34 _ rfl).1.trans (st99.st.has 0 _ rfl).1.symm) (by simp) .nil (spec_anyName_w p90) [33] rfl [2, 5, 32] rfl rfl (by decide) (fun G100 M100 a100 w100 st100 => ?_)
  have st101 := st100.gs (Gs' := [oneB none, oneB none, G86, G100, (oneB (some b1)), (oneB (some b84))]) rfl
  refine aHN (st101.bcS (s := 5) rfl) ?_
  refine aH1 (i := 4) (by decide +kernel) rfl ?_
  have st102 := st101.unm (s := 32) 2 rfl rfl iI [0, 2, 5] rfl
  refine st102.stO (sb := 2) (tv := 32) 4 2 (PV.root.box rfl) rfl rfl rfl kT30 (by simp) (by simp) (by decide) (opd_nm rfl) rfl rfl rfl iI iI [33, 35] rfl [0, 5] rfl rfl rfl (fun G103 w103 st103 => ?_)
  have st104 := st103.gs (Gs' := [oneB none, oneB none, oneB none, G100, G103, (oneB (some b84))]) rfl
  refine aHN (st104.bcS (s := 5) rfl) ?_
  refine aH1 (i := 5) (by decide +kernel) rfl ?_
  refine st104.seg 1 (sc rfl (oA rfl (tp rfl)) <| .nil) [3, 35] rfl [(0, 3), (2, 4), (5, 5)] rfl ⟨iI, ⟨iI, ⟨iI, trivial⟩⟩⟩ (fun a105 w105 st105 => ?_)
  refine aHN (st105.bcS (s := 5) rfl) ?_
  refine aH1 (i := 6) (by decide +kernel) rfl ?_
  refine st105.seg 1 (sc rfl (oA rfl (tp rfl)) <| .nil) [3, 4] rfl [(0, 3), (2, 4), (5, 5)] rfl ⟨iI, ⟨iI, ⟨iI, trivial⟩⟩⟩ (fun a106 w106 st106 => ?_)
  refine aHN (st106.bcS (s := 5) rfl) ?_
  refine aH0 (by decide +kernel) ?_
  refine then_normal (wp_ret ?_)
  obtain rfl := Option.some.inj h98
  exact st106.rs3O (s := 0) 3 4 rfl kT30 rfl rfl rfl rfl ⟨rfl, rfl⟩ iI iI (by decide) ⟨rfl, rfl⟩
end Go.Proofs.YtbnibckkfknpkaaGreatDoor
