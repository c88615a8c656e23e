/-
  Models of functions, and their walks: printed by a program of our own (wip/mxo.py).
  Models of functions, and their walks: printed by a program of our own (wip/mxo.py).
-/
import Derived.Test.YtbnibckkfknpkaaGreatDoorLKU
import Derived.Test.YtbnibckkfknpkaaGreatDoorLGU
import Derived.Test.YtbnibckkfknpkaaGreatDoorLHU
namespace Go.Proofs.YtbnibckkfknpkaaGreatDoor
open Go.RowKit
set_option maxRecDepth 10000
set_option maxHeartbeats 1600000
theorem kN148 : fnB Tryz.prog 148 = true := by kernel_rfl
def m_spec_anyTree (x0 : Reader) : Option (Reader × Tree) :=
(m_spec_someTree x0).bind fun v6 =>
Option.bind (α := Reader × Tree) (if (cmpI .gtr (v6.2.files.length : Int) (0 : Int)) = true then ((m_spec_reader_pick v6.1 (24 : Int)).bind fun v21 =>
if (cmpI .eql v21.2 (0 : Int)) = true then ((atI v6.2.files (0 : Int)).bind fun v31 =>
(appO 80 v6.2.files ([v31] : List File)).bind fun v39 =>
some (v21.1, (⟨v39⟩ : Tree)))
else (if (cmpI .eql v21.2 (1 : Int)) = true then ((m_spec_reader_one v21.1 ([(-1 : Int), (3 : Int)] : List Int)).bind fun v59 =>
(atI v6.2.files (0 : Int)).bind fun v62 =>
some (v59.1, (⟨(v6.2.files.set (0 : Int).toNat ({ v62 with root := v59.2 }))⟩ : Tree)))
else (if (cmpI .eql v21.2 (2 : Int)) = true then ((m_spec_reader_one v21.1 ([(-1 : Int), (100 : Int)] : List Int)).bind fun v101 =>
(atI v6.2.files (0 : Int)).bind fun v104 =>
some (v101.1, (⟨(v6.2.files.set (0 : Int).toNat ({ v104 with stamp := v101.2 }))⟩ : Tree)))
else (if (cmpI .eql v21.2 (3 : Int)) = true then ((atI v6.2.files (0 : Int)).bind fun v143 =>
(appO 56 v143.body ([(⟨(9 : Int), ⟨[]⟩, 0, ⟨[]⟩, 0⟩ : Stmt)] : List Stmt)).bind fun v154 =>
(atI v6.2.files (0 : Int)).bind fun _v157 =>
some (v21.1, (⟨(v6.2.files.set (0 : Int).toNat ({ v143 with body := v154 }))⟩ : Tree)))
else (some (v21.1, v6.2))))))
else (some (v6.1, v6.2))) fun o13 =>
some (o13.1, o13.2)
theorem spec_anyTree_w {x0 : Reader} {r : Reader × Tree} (h : m_spec_anyTree x0 = some r) : FnS Tryz.prog 115 (Ow.box (Ow.frz (α := Reader))) ⟨x0⟩ [] ⟨r.1⟩ (.frz (dt r.2)) := by
 unfold m_spec_anyTree at h
 refine fnSB (fn := Tryz.f115) 4 9 Tryz.func115 rfl (of_decide_eq_true rfl) rfl (fun M G w0 b0 a0 st0 => ?_)
 refine wp_seq (wp_region_list ?_)
 refine st0.alloc 7 rfl rfl kZ30 zrTree (by simp) [] rfl [0] rfl rfl (fun b2 M2 a2 w2 st2 => ?_)
 have st3 := st2.gs (Gs' := [oneB none, oneB none, oneB none, oneB none, G, oneB none, oneB none, oneB (some b2), oneB none]) rfl
 refine wpList_nil (then_normal (wp_seq (wp_region_list ?_)))
 refine st3.seg 1 (
  sc rfl (oM rfl (tp rfl)) <| .nil) [] rfl [(0, 4), (2, 7), (4, 4)] rfl ⟨iI, ⟨iI, ⟨iI, trivial⟩⟩⟩ (fun a4 w4 st4 => ?_)
 obtain ⟨v6, p6, h7⟩ := bs h
 refine st4.cSO (l := []) 4 0 (st4.bkN (s := 0) rfl iI) rfl rfl kN148 ((st4.st.has 4 _ rfl).1.trans (st4.st.has 0 _ rfl).1.symm) (by simp) (by simp) (by decide) .nil (spec_someTree_w p6) [] rfl [2] rfl rfl rfl rfl (by decide) (fun G5 H5 M5 a5 w5 st5 => ?_)
 have st8 := st5.gs (Gs' := [H5, oneB none, oneB none, oneB none, G5, oneB none, oneB none, oneB (some b2), oneB none]) rfl
 refine st8.alcW (ow := (owTree (Ow.row 61 (owFile (Ow.row 64 (Ow.frz (α := Stmt))))))) 8 rfl rfl kZ30 (owTree.z Ow.row_z) (by simp) [] rfl [0, 2, 5] rfl rfl (fun b9 M9 a9 w9 st9 => ?_)
 have st10 := st9.gs (Gs' := [H5, oneB none, oneB none, oneB none, G5, oneB none, oneB none, oneB (some b2), (oneB (some b9))]) rfl
 refine st10.stO (sb := 3) (tv := 5) 8 0 (PV.root.box rfl) rfl rfl rfl kT30 (by simp) (by simp) (by decide) (opd_nm rfl) rfl rfl rfl iI iI [] rfl [0, 2] rfl rfl rfl (fun G11 w11 st11 => ?_)
 have st12 := st11.gs (Gs' := [oneB none, oneB none, oneB none, oneB none, G5, oneB none, oneB none, oneB (some b2), G11]) rfl
 refine wpList_nil (then_normal ?_)
 obtain ⟨o13, p13, k13⟩ := bs h7
 refine wp_seq_join (fun a w => ∃ M1 q13_0 q13_1 q13_2 q13_3 q13_4 q13_5 q13_6 q13_7 q13_8, Sx (Frm.chg w0 G) 56 M M1 [q13_0, q13_1, q13_2, q13_3, q13_4, q13_5, q13_6, oneB q13_7, q13_8] [(3, dptr o13.2)] [(2, 7, dbox q13_7 0 zTree), (0, 4, dnm (Ow.box (Ow.frz (α := Reader))) q13_4 ⟨o13.1⟩ (.pointer (some ⟨b0, 0, none⟩)) [])] a w) ?_ ?_
 ·
  refine st12.hdR (s := 3) 8 true (fun _ => ((PV.root.box rfl).fld owTree.f0)) rfl rfl iI [0, 2] rfl (fun g14 A14 c14 hA14 st14 => ?_)
  refine st14.sq (
   sc rfl (xFa rfl kF30_0 (opd_nm rfl)) <|
   sc rfl (xLc (sb := 3) (.head _) rfl rfl rfl kT28 (tp rfl) rfl) <|
   sc rfl (xLe rfl kL28 (tp rfl)) <|
   sc rfl (oCI rfl (tp rfl) cI) <| .nil) [9] rfl [(0, 4), (2, 7), (3, 8)] rfl ⟨iI, ⟨iI, ⟨iI, trivial⟩⟩⟩ (fun a15 w15 st15 => ?_)
  have st16 := st15.ncf (s := 3) 8 rfl rfl iI [0, 2] rfl
  refine st16.cs (c := 9) rfl p13 (fun c17 h17 => ?_) (fun c18 h18 => ?_)
  ·
   refine wp_seq (wp_region_list ?_)
   refine st16.seg 1 (
    sc rfl (oM rfl (tp rfl)) <| .nil) [] rfl [(0, 4), (2, 7), (3, 8), (10, 4)] rfl ⟨iI, ⟨iI, ⟨iI, ⟨iI, trivial⟩⟩⟩⟩ (fun a19 w19 st19 => ?_)
   obtain ⟨v21, p21, h22⟩ := bs h17
   refine st19.cSF (l := [.const (.int .i64 24)]) 4 (st19.bkN (s := 0) rfl iI) rfl rfl kN117 ((st19.st.has 10 _ rfl).1.trans (st19.st.has 0 _ rfl).1.symm) (by simp) (.cons cI .nil) (spec_reader_pick_w p21) [] rfl [2, 3] rfl rfl (by decide) (fun G20 M20 a20 w20 st20 => ?_)
   have st23 := st20.gs (Gs' := [oneB none, oneB none, oneB none, oneB none, G20, oneB none, oneB none, oneB (some b2), G11]) rfl
   refine wpList_nil (then_normal (wp_block ?_))
   refine st23.sq (
    sc rfl (oCI rfl (tp rfl) cI) <|
    sc rfl (oA rfl (tp rfl)) <| .nil) [11, 12] rfl [(0, 4), (2, 7), (3, 8)] rfl ⟨iI, ⟨iI, ⟨iI, trivial⟩⟩⟩ (fun a24 w24 st24 => ?_)
   refine st24.cs (c := 12) rfl h22 (fun c25 h25 => ?_) (fun c26 h26 => ?_)
   ·
    have st27 := st24.unm (s := 3) 8 rfl rfl iI [0, 2] rfl
    refine st27.thin (s := 3) (o2 := (Ow.box (owTree (Ow.row 61 (Ow.frz (α := File)))))) 8 (thin_box (thin_via thin_row)) rfl rfl (by simp) iI [11, 12] rfl [0, 2] rfl rfl (fun G28 M28 st28 => ?_)
    obtain ⟨v31, p31, h32⟩ := bs h25
    refine st28.nmB (s := 3) 8 rfl rfl iI [0, 2] rfl (fun b29 st29 => ?_)
    refine st29.hdR (s := 3) 8 true (fun _ => ((PV.root.box rfl).fld owTree.f0)) rfl rfl iI [0, 2] rfl (fun g30 A30 c30 hA30 st30 => ?_)
    refine st30.drn (D := [_, _, _, _, _, _, _]) Tryz_mixed 7 [[], [0], [], [2], [2, 3], [2, 3, 4], [2, 3, 4, 5], [0, 1, 2, 3, 4, 5, 6], [0, 1, 2, 3, 4, 5, 6, 7], [0, 1, 2, 3, 4, 5, 6, 7, 8]] [[(3, none)], [(14, some 0), (3, none)], [(3, none)], [(16, some 2), (3, none)], [(17, some 3)], [(18, some 4), (3, none)], [(19, some 5)], [(15, some 1), (20, some 6)], [(3, none)], [(22, some 8), (21, some 7)]] (by decide +kernel) (by decide) (
     rc rfl rfl (xFa rfl kF30_0 (opd_nm rfl)) <|
     rc rfl rfl (xLc (sb := 3) (.head _) rfl rfl rfl kT28 (tp rfl) rfl) <|
     rc rfl rfl (xFa rfl kF30_0 (opd_nm rfl)) <|
     rc rfl rfl (xLc (sb := 3) (.head _) rfl rfl rfl kT28 (tp rfl) rfl) <|
     rc rfl rfl (xIa (g := g30) rfl kS28 (tp rfl) cI rfl (fun h => hA30 h rfl) p31) <|
     rc rfl rfl (xLf (sb := 3) (((PV.root.box rfl).fld owTree.f0).row (.head _) rfl (fun h => hA30 h rfl) p31) rfl kT61 (tp rfl) rfl) <|
     rc rfl rfl (op_lit (opds := [.tmp 19]) rfl kS28 kY28 rfl rfl (by decide) (.cons (tp rfl) .nil)) <| .nil) [15, 20] rfl [(0, 4), (2, 7), (3, 8)] rfl ⟨iI, ⟨iI, ⟨iI, trivial⟩⟩⟩ (fun a33 w33 st33 => ?_)
    refine st33.mvG (s := 15) (sb := 3) 8 1 ((PV.root.box rfl).fld owTree.f0) (.head _) rfl (fits_one rfl rfl) rfl (by simp) (by simp) (by decide) rfl iI [20] rfl [0, 2] rfl rfl rfl rfl (fun G35 H35 st35 => ?_)
    have st36 := st35.gs (Gs' := [oneB none, H35, oneB none, oneB none, G20, oneB none, oneB none, oneB (some b2), G35]) rfl
    refine st36.tipR (s := 15) 1 rfl rfl (by simp) iI [0, 2, 3] rfl rfl (fun g37 st37 => ?_)
    obtain ⟨v39, p39, h40⟩ := bs h32
    refine st37.app 1 rfl rfl kE28 rfl rfl rfl row_dt p39 [] rfl [0, 2, 3] rfl rfl (fun g38 M38 a38 w38 st38 => ?_)
    have st41 := st38.gs (Gs' := [oneB none, oneB g38, oneB none, oneB none, G20, oneB none, oneB none, oneB (some b2), G35]) rfl
    refine st41.seg 1 (
     sc rfl (xFa rfl kF30_0 (opd_hl rfl)) <| .nil) [22] rfl [(0, 4), (2, 7), (3, 8), (21, 1)] rfl ⟨iI, ⟨iI, ⟨iI, ⟨iI, trivial⟩⟩⟩⟩ (fun a42 w42 st42 => ?_)
    have st44 := st42.tipW (s := 21) 1 rfl rfl iI [0, 2, 3] rfl
    refine st44.stH (sb := 3) (tv := 21) 8 1 rfl rfl rfl kT28 (by simp) (by simp) (by decide) (tp rfl) rfl rfl iI iI [] rfl [0, 2] rfl rfl rfl (fun G43 w43 st43 => ?_)
    have st45 := st43.gs (Gs' := [oneB none, oneB none, oneB none, oneB none, G20, oneB none, oneB none, oneB (some b2), G43]) rfl
    refine wpList_nil (blk_normal ?_)
    have st46 := st45.unm (s := 3) 8 rfl rfl iI [0, 2] rfl
    have st47 := st46.frzB (s := 3) 8 rfl (by simp) iI [] rfl [0, 2] rfl rfl
    refine then_normal ?_
    obtain rfl := Option.some.inj h40
    exact ⟨_, _, _, _, _, _, _, _, _, _, st47.sel [3] rfl [(2, 7), (0, 4)] rfl ⟨iI, ⟨iI, trivial⟩⟩⟩
   ·
    refine st24.sq (
     sc rfl (oCI rfl (tp rfl) cI) <|
     sc rfl (oA rfl (tp rfl)) <| .nil) [11, 23] rfl [(0, 4), (2, 7), (3, 8)] rfl ⟨iI, ⟨iI, ⟨iI, trivial⟩⟩⟩ (fun a48 w48 st48 => ?_)
    refine st48.cs (c := 23) rfl h26 (fun c49 h49 => ?_) (fun c50 h50 => ?_)
    ·
     refine st48.hdR (s := 3) 8 true (fun _ => ((PV.root.box rfl).fld owTree.f0)) rfl rfl iI [0, 2] rfl (fun g51 A51 c51 hA51 st51 => ?_)
     refine st51.held (fun w => w.cell? ⟨b9, 0, none⟩ = some (.slice A51 (v6.2.files.length) c51)) Tryz_mixed (fun w52 st52 => ?_)
     refine st52.tk (i := 0) rfl rfl (by decide +kernel) (by decide +kernel) (by decide +kernel) (fun _ _ _ h => h) (st52.cellS (sb := 3) rfl (.head _) rfl rfl) (yFa rfl kF30_0 (st52.st.has 3 _ rfl).1) (fun a53 st53 => ?_)
     refine st53.tk (i := 1) rfl rfl (by decide +kernel) (by decide +kernel) (by decide +kernel) (fun _ _ _ h => h) (st53.cellS (sb := 3) rfl (.head _) rfl rfl) (yLd rfl kT28 (st53.st.has 25 _ rfl) (fun _ h => h)) (fun a54 st54 => ?_)
     refine st54.mvN (s := 26) (sb := 3) 8 2 ((PV.root.box rfl).fld owTree.f0) (.head _) rfl (fits_one rfl rfl) rfl rfl (by simp) (by simp) (by decide) rfl iI [11, 23, 25] rfl [0, 2] rfl rfl rfl rfl (by decide) (fun G55 H55 st55 => ?_)
     obtain ⟨v59, p59, h66⟩ := bs h49
     obtain ⟨v62, p62, h67⟩ := bs h66
     refine aH2 (i := 2) (j := 3) (by decide +kernel) rfl rfl ?_ ?_
     ·
      refine st55.seg 1 (sc rfl (oM rfl (tp rfl)) <| .nil) [] rfl [(0, 4), (2, 7), (3, 8), (26, 2), (27, 4)] rfl ⟨iI, ⟨iI, ⟨iI, ⟨iI, ⟨iI, trivial⟩⟩⟩⟩⟩ (fun a68 w68 st68 => ?_)
      refine aHN (st68.hkS (sb := 3) rfl) ?_
      refine aH1 (i := 3) (by decide +kernel) rfl ?_
      refine st68.seg 1 (sc rfl (op_lit (opds := [.const (.int .i64 (-1)), .const (.int .i64 3)]) rfl kS25 kY25 rfl rfl (by decide) (.cons cI (.cons cI .nil))) <| .nil) [28] rfl [(0, 4), (2, 7), (3, 8), (26, 2), (27, 4)] rfl ⟨iI, ⟨iI, ⟨iI, ⟨iI, ⟨iI, trivial⟩⟩⟩⟩⟩ (fun a69 w69 st69 => ?_)
      refine aHN (st69.hkS (sb := 3) rfl) ?_
      refine aH1 (i := 4) (by decide +kernel) rfl ?_
      refine st69.cSF (l := [.tmp 28]) 4 (st69.bkN (s := 0) rfl iI) rfl rfl kN124 ((st69.st.has 27 _ rfl).1.trans (st69.st.has 0 _ rfl).1.symm) (by simp) (.cons (tp rfl) .nil) (spec_reader_one_w p59) [] rfl [2, 3, 26] rfl rfl (by decide) (fun G70 M70 a70 w70 st70 => ?_)
      have st71 := st70.gs (Gs' := [oneB none, oneB none, H55, oneB none, G70, oneB none, oneB none, oneB (some b2), G55]) rfl
      refine aHN (st71.hkS (sb := 3) rfl) ?_
      refine aH1 (i := 5) (by decide +kernel) rfl ?_
      refine st71.seg 1 (sc rfl (xIaN rfl kS28 rfl cI (fun h => hA51 h rfl) p62) <| .nil) [29, 30] rfl [(0, 4), (2, 7), (3, 8), (26, 2)] rfl ⟨iI, ⟨iI, ⟨iI, ⟨iI, trivial⟩⟩⟩⟩ (fun a72 w72 st72 => ?_)
      refine aHN (st72.hkS (sb := 3) rfl) ?_
      refine aH1 (i := 6) (by decide +kernel) rfl ?_
      refine st72.seg 1 (sc rfl (xFa rfl kF61_0 (tp rfl)) <| .nil) [29, 31] rfl [(0, 4), (2, 7), (3, 8), (26, 2)] rfl ⟨iI, ⟨iI, ⟨iI, ⟨iI, trivial⟩⟩⟩⟩ (fun a73 w73 st73 => ?_)
      refine aHN (st73.hkS (sb := 3) rfl) ?_
      refine aH1 (i := 7) (by decide +kernel) rfl ?_
      refine st73.stF (sb := 26) 2 ((PV.root.row rfl (fun h => hA51 h rfl) p62).fld owFile.f0) rfl rfl rfl kT3 (by simp) (tp rfl) (tp rfl) rfl rfl iI [] rfl [0, 2, 3] rfl rfl (fun w74 st74 => ?_)
      refine aHN (st74.hkS (sb := 3) rfl) ?_
      refine aH0 (by decide +kernel) ?_
      refine st74.stG (s := 26) (sb := 3) 8 2 rfl (by simp) (by simp) (by decide) rfl rfl iI iI [] rfl [0, 2] rfl rfl rfl (fun G75 st75 => ?_)
      have st76 := st75.gs (Gs' := [oneB none, oneB none, oneB none, oneB none, G70, oneB none, oneB none, oneB (some b2), G75]) rfl
      refine blk_normal ?_
      have st77 := st76.unm (s := 3) 8 rfl rfl iI [0, 2] rfl
      have st78 := st77.frzB (s := 3) 8 rfl (by simp) iI [] rfl [0, 2] rfl rfl
      refine then_normal ?_
      obtain rfl := Option.some.inj h67
      exact ⟨_, _, _, _, _, _, _, _, _, _, st78.sel [3] rfl [(2, 7), (0, 4)] rfl ⟨iI, ⟨iI, trivial⟩⟩⟩
     ·
      refine st55.seg 1 (sc rfl (op_lit (opds := [.const (.int .i64 (-1)), .const (.int .i64 3)]) rfl kS25 kY25 rfl rfl (by decide) (.cons cI (.cons cI .nil))) <| .nil) [28] rfl [(0, 4), (2, 7), (3, 8), (26, 2)] rfl ⟨iI, ⟨iI, ⟨iI, ⟨iI, trivial⟩⟩⟩⟩ (fun a79 w79 st79 => ?_)
      refine aHN (st79.hkS (sb := 3) rfl) ?_
      refine aH1 (i := 2) (by decide +kernel) rfl ?_
      refine st79.seg 1 (sc rfl (oM rfl (tp rfl)) <| .nil) [28] rfl [(0, 4), (2, 7), (3, 8), (26, 2), (27, 4)] rfl ⟨iI, ⟨iI, ⟨iI, ⟨iI, ⟨iI, trivial⟩⟩⟩⟩⟩ (fun a80 w80 st80 => ?_)
      refine aHN (st80.hkS (sb := 3) rfl) ?_
      refine aH1 (i := 4) (by decide +kernel) rfl ?_
      refine st80.cSF (l := [.tmp 28]) 4 (st80.bkN (s := 0) rfl iI) rfl rfl kN124 ((st80.st.has 27 _ rfl).1.trans (st80.st.has 0 _ rfl).1.symm) (by simp) (.cons (tp rfl) .nil) (spec_reader_one_w p59) [] rfl [2, 3, 26] rfl rfl (by decide) (fun G81 M81 a81 w81 st81 => ?_)
      have st82 := st81.gs (Gs' := [oneB none, oneB none, H55, oneB none, G81, oneB none, oneB none, oneB (some b2), G55]) rfl
      refine aHN (st82.hkS (sb := 3) rfl) ?_
      refine aH1 (i := 5) (by decide +kernel) rfl ?_
      refine st82.seg 1 (sc rfl (xIaN rfl kS28 rfl cI (fun h => hA51 h rfl) p62) <| .nil) [29, 30] rfl [(0, 4), (2, 7), (3, 8), (26, 2)] rfl ⟨iI, ⟨iI, ⟨iI, ⟨iI, trivial⟩⟩⟩⟩ (fun a83 w83 st83 => ?_)
      refine aHN (st83.hkS (sb := 3) rfl) ?_
      refine aH1 (i := 6) (by decide +kernel) rfl ?_
      refine st83.seg 1 (sc rfl (xFa rfl kF61_0 (tp rfl)) <| .nil) [29, 31] rfl [(0, 4), (2, 7), (3, 8), (26, 2)] rfl ⟨iI, ⟨iI, ⟨iI, ⟨iI, trivial⟩⟩⟩⟩ (fun a84 w84 st84 => ?_)
      refine aHN (st84.hkS (sb := 3) rfl) ?_
      refine aH1 (i := 7) (by decide +kernel) rfl ?_
      refine st84.stF (sb := 26) 2 ((PV.root.row rfl (fun h => hA51 h rfl) p62).fld owFile.f0) rfl rfl rfl kT3 (by simp) (tp rfl) (tp rfl) rfl rfl iI [] rfl [0, 2, 3] rfl rfl (fun w85 st85 => ?_)
      refine aHN (st85.hkS (sb := 3) rfl) ?_
      refine aH0 (by decide +kernel) ?_
      refine st85.stG (s := 26) (sb := 3) 8 2 rfl (by simp) (by simp) (by decide) rfl rfl iI iI [] rfl [0, 2] rfl rfl rfl (fun G86 st86 => ?_)
      have st87 := st86.gs (Gs' := [oneB none, oneB none, oneB none, oneB none, G81, oneB none, oneB none, oneB (some b2), G86]) rfl
      refine blk_normal ?_
      have st88 := st87.unm (s := 3) 8 rfl rfl iI [0, 2] rfl
      have st89 := st88.frzB (s := 3) 8 rfl (by simp) iI [] rfl [0, 2] rfl rfl
      refine then_normal ?_
      obtain rfl := Option.some.inj h67
      exact ⟨_, _, _, _, _, _, _, _, _, _, st89.sel [3] rfl [(2, 7), (0, 4)] rfl ⟨iI, ⟨iI, trivial⟩⟩⟩
    ·
     refine st48.sq (
      sc rfl (oCI rfl (tp rfl) cI) <|
      sc rfl (oA rfl (tp rfl)) <| .nil) [11, 32] rfl [(0, 4), (2, 7), (3, 8)] rfl ⟨iI, ⟨iI, ⟨iI, trivial⟩⟩⟩ (fun a90 w90 st90 => ?_)
     refine st90.cs (c := 32) rfl h50 (fun c91 h91 => ?_) (fun c92 h92 => ?_)
     ·
      refine st90.hdR (s := 3) 8 true (fun _ => ((PV.root.box rfl).fld owTree.f0)) rfl rfl iI [0, 2] rfl (fun g93 A93 c93 hA93 st93 => ?_)
      refine st93.held (fun w => w.cell? ⟨b9, 0, none⟩ = some (.slice A93 (v6.2.files.length) c93)) Tryz_mixed (fun w94 st94 => ?_)
      refine st94.tk (i := 0) rfl rfl (by decide +kernel) (by decide +kernel) (by decide +kernel) (fun _ _ _ h => h) (st94.cellS (sb := 3) rfl (.head _) rfl rfl) (yFa rfl kF30_0 (st94.st.has 3 _ rfl).1) (fun a95 st95 => ?_)
      refine st95.tk (i := 1) rfl rfl (by decide +kernel) (by decide +kernel) (by decide +kernel) (fun _ _ _ h => h) (st95.cellS (sb := 3) rfl (.head _) rfl rfl) (yLd rfl kT28 (st95.st.has 34 _ rfl) (fun _ h => h)) (fun a96 st96 => ?_)
      refine st96.mvN (s := 35) (sb := 3) 8 3 ((PV.root.box rfl).fld owTree.f0) (.head _) rfl (fits_one rfl rfl) rfl rfl (by simp) (by simp) (by decide) rfl iI [11, 32, 34] rfl [0, 2] rfl rfl rfl rfl (by decide) (fun G97 H97 st97 => ?_)
      obtain ⟨v101, p101, h108⟩ := bs h91
      obtain ⟨v104, p104, h109⟩ := bs h108
      refine aH2 (i := 2) (j := 3) (by decide +kernel) rfl rfl ?_ ?_
      ·
       refine st97.seg 1 (sc rfl (oM rfl (tp rfl)) <| .nil) [] rfl [(0, 4), (2, 7), (3, 8), (35, 3), (36, 4)] rfl ⟨iI, ⟨iI, ⟨iI, ⟨iI, ⟨iI, trivial⟩⟩⟩⟩⟩ (fun a110 w110 st110 => ?_)
       refine aHN (st110.hkS (sb := 3) rfl) ?_
       refine aH1 (i := 3) (by decide +kernel) rfl ?_
       refine st110.seg 1 (sc rfl (op_lit (opds := [.const (.int .i64 (-1)), .const (.int .i64 100)]) rfl kS25 kY25 rfl rfl (by decide) (.cons cI (.cons cI .nil))) <| .nil) [37] rfl [(0, 4), (2, 7), (3, 8), (35, 3), (36, 4)] rfl ⟨iI, ⟨iI, ⟨iI, ⟨iI, ⟨iI, trivial⟩⟩⟩⟩⟩ (fun a111 w111 st111 => ?_)
       refine aHN (st111.hkS (sb := 3) rfl) ?_
       refine aH1 (i := 4) (by decide +kernel) rfl ?_
       refine st111.cSF (l := [.tmp 37]) 4 (st111.bkN (s := 0) rfl iI) rfl rfl kN124 ((st111.st.has 36 _ rfl).1.trans (st111.st.has 0 _ rfl).1.symm) (by simp) (.cons (tp rfl) .nil) (spec_reader_one_w p101) [] rfl [2, 3, 35] rfl rfl (by decide) (fun G112 M112 a112 w112 st112 => ?_)
       have st113 := st112.gs (Gs' := [oneB none, oneB none, oneB none, H97, G112, oneB none, oneB none, oneB (some b2), G97]) rfl
       refine aHN (st113.hkS (sb := 3) rfl) ?_
       refine aH1 (i := 5) (by decide +kernel) rfl ?_
       refine st113.seg 1 (sc rfl (xIaN rfl kS28 rfl cI (fun h => hA93 h rfl) p104) <| .nil) [38, 39] rfl [(0, 4), (2, 7), (3, 8), (35, 3)] rfl ⟨iI, ⟨iI, ⟨iI, ⟨iI, trivial⟩⟩⟩⟩ (fun a114 w114 st114 => ?_)
       refine aHN (st114.hkS (sb := 3) rfl) ?_
       refine aH1 (i := 6) (by decide +kernel) rfl ?_
       refine st114.seg 1 (sc rfl (xFa rfl kF61_4 (tp rfl)) <| .nil) [38, 40] rfl [(0, 4), (2, 7), (3, 8), (35, 3)] rfl ⟨iI, ⟨iI, ⟨iI, ⟨iI, trivial⟩⟩⟩⟩ (fun a115 w115 st115 => ?_)
       refine aHN (st115.hkS (sb := 3) rfl) ?_
       refine aH1 (i := 7) (by decide +kernel) rfl ?_
       refine st115.stF (sb := 35) 3 ((PV.root.row rfl (fun h => hA93 h rfl) p104).fld owFile.f4) rfl rfl rfl kT3 (by simp) (tp rfl) (tp rfl) rfl rfl iI [] rfl [0, 2, 3] rfl rfl (fun w116 st116 => ?_)
       refine aHN (st116.hkS (sb := 3) rfl) ?_
       refine aH0 (by decide +kernel) ?_
       refine st116.stG (s := 35) (sb := 3) 8 3 rfl (by simp) (by simp) (by decide) rfl rfl iI iI [] rfl [0, 2] rfl rfl rfl (fun G117 st117 => ?_)
       have st118 := st117.gs (Gs' := [oneB none, oneB none, oneB none, oneB none, G112, oneB none, oneB none, oneB (some b2), G117]) rfl
       refine blk_normal ?_
       have st119 := st118.unm (s := 3) 8 rfl rfl iI [0, 2] rfl
       have st120 := st119.frzB (s := 3) 8 rfl (by simp) iI [] rfl [0, 2] rfl rfl
       refine then_normal ?_
       obtain rfl := Option.some.inj h109
       exact ⟨_, _, _, _, _, _, _, _, _, _, st120.sel [3] rfl [(2, 7), (0, 4)] rfl ⟨iI, ⟨iI, trivial⟩⟩⟩
      ·
       refine st97.seg 1 (sc rfl (op_lit (opds := [.const (.int .i64 (-1)), .const (.int .i64 100)]) rfl kS25 kY25 rfl rfl (by decide) (.cons cI (.cons cI .nil))) <| .nil) [37] rfl [(0, 4), (2, 7), (3, 8), (35, 3)] rfl ⟨iI, ⟨iI, ⟨iI, ⟨iI, trivial⟩⟩⟩⟩ (fun a121 w121 st121 => ?_)
       refine aHN (st121.hkS (sb := 3) rfl) ?_
       refine aH1 (i := 2) (by decide +kernel) rfl ?_
       refine st121.seg 1 (sc rfl (oM rfl (tp rfl)) <| .nil) [37] rfl [(0, 4), (2, 7), (3, 8), (35, 3), (36, 4)] rfl ⟨iI, ⟨iI, ⟨iI, ⟨iI, ⟨iI, trivial⟩⟩⟩⟩⟩ (fun a122 w122 st122 => ?_)
       refine aHN (st122.hkS (sb := 3) rfl) ?_
       refine aH1 (i := 4) (by decide +kernel) rfl ?_
       refine st122.cSF (l := [.tmp 37]) 4 (st122.bkN (s := 0) rfl iI) rfl rfl kN124 ((st122.st.has 36 _ rfl).1.trans (st122.st.has 0 _ rfl).1.symm) (by simp) (.cons (tp rfl) .nil) (spec_reader_one_w p101) [] rfl [2, 3, 35] rfl rfl (by decide) (fun G123 M123 a123 w123 st123 => ?_)
       have st124 := st123.gs (Gs' := [oneB none, oneB none, oneB none, H97, G123, oneB none, oneB none, oneB (some b2), G97]) rfl
       refine aHN (st124.hkS (sb := 3) rfl) ?_
       refine aH1 (i := 5) (by decide +kernel) rfl ?_
       refine st124.seg 1 (sc rfl (xIaN rfl kS28 rfl cI (fun h => hA93 h rfl) p104) <| .nil) [38, 39] rfl [(0, 4), (2, 7), (3, 8), (35, 3)] rfl ⟨iI, ⟨iI, ⟨iI, ⟨iI, trivial⟩⟩⟩⟩ (fun a125 w125 st125 => ?_)
       refine aHN (st125.hkS (sb := 3) rfl) ?_
       refine aH1 (i := 6) (by decide +kernel) rfl ?_
       refine st125.seg 1 (sc rfl (xFa rfl kF61_4 (tp rfl)) <| .nil) [38, 40] rfl [(0, 4), (2, 7), (3, 8), (35, 3)] rfl ⟨iI, ⟨iI, ⟨iI, ⟨iI, trivial⟩⟩⟩⟩ (fun a126 w126 st126 => ?_)
       refine aHN (st126.hkS (sb := 3) rfl) ?_
       refine aH1 (i := 7) (by decide +kernel) rfl ?_
       refine st126.stF (sb := 35) 3 ((PV.root.row rfl (fun h => hA93 h rfl) p104).fld owFile.f4) rfl rfl rfl kT3 (by simp) (tp rfl) (tp rfl) rfl rfl iI [] rfl [0, 2, 3] rfl rfl (fun w127 st127 => ?_)
       refine aHN (st127.hkS (sb := 3) rfl) ?_
       refine aH0 (by decide +kernel) ?_
       refine st127.stG (s := 35) (sb := 3) 8 3 rfl (by simp) (by simp) (by decide) rfl rfl iI iI [] rfl [0, 2] rfl rfl rfl (fun G128 st128 => ?_)
       have st129 := st128.gs (Gs' := [oneB none, oneB none, oneB none, oneB none, G123, oneB none, oneB none, oneB (some b2), G128]) rfl
       refine blk_normal ?_
       have st130 := st129.unm (s := 3) 8 rfl rfl iI [0, 2] rfl
       have st131 := st130.frzB (s := 3) 8 rfl (by simp) iI [] rfl [0, 2] rfl rfl
       refine then_normal ?_
       obtain rfl := Option.some.inj h109
       exact ⟨_, _, _, _, _, _, _, _, _, _, st131.sel [3] rfl [(2, 7), (0, 4)] rfl ⟨iI, ⟨iI, trivial⟩⟩⟩
     ·
      refine st90.sq (
       sc rfl (oCI rfl (tp rfl) cI) <|
       sc rfl (oA rfl (tp rfl)) <| .nil) [41] rfl [(0, 4), (2, 7), (3, 8)] rfl ⟨iI, ⟨iI, ⟨iI, trivial⟩⟩⟩ (fun a132 w132 st132 => ?_)
      refine st132.cs (c := 41) rfl h92 (fun c133 h133 => ?_) (fun c134 h134 => ?_)
      ·
       refine st132.hdR (s := 3) 8 true (fun _ => ((PV.root.box rfl).fld owTree.f0)) rfl rfl iI [0, 2] rfl (fun g135 A135 c135 hA135 st135 => ?_)
       refine st135.held (fun w => w.cell? ⟨b9, 0, none⟩ = some (.slice A135 (v6.2.files.length) c135)) Tryz_mixed (fun w136 st136 => ?_)
       refine st136.tk (i := 0) rfl rfl (by decide +kernel) (by decide +kernel) (by decide +kernel) (fun _ _ _ h => h) (st136.cellS (sb := 3) rfl (.head _) rfl rfl) (yFa rfl kF30_0 (st136.st.has 3 _ rfl).1) (fun a137 st137 => ?_)
       refine st137.tk (i := 1) rfl rfl (by decide +kernel) (by decide +kernel) (by decide +kernel) (fun _ _ _ h => h) (st137.cellS (sb := 3) rfl (.head _) rfl rfl) (yLd rfl kT28 (st137.st.has 43 _ rfl) (fun _ h => h)) (fun a138 st138 => ?_)
       refine st138.tk (i := 2) rfl rfl (by decide +kernel) (by decide +kernel) (by decide +kernel) (fun _ _ _ h => h) (st138.cellS (sb := 3) rfl (.head _) rfl rfl) (yFa rfl kF30_0 (st138.st.has 3 _ rfl).1) (fun a139 st139 => ?_)
       refine st139.tk (i := 3) rfl rfl (by decide +kernel) (by decide +kernel) (by decide +kernel) (fun _ _ _ h => h) (st139.cellS (sb := 3) rfl (.head _) rfl rfl) (yLd rfl kT28 (st139.st.has 45 _ rfl) (fun _ h => h)) (fun a140 st140 => ?_)
       refine st140.tkB (i := 7) (parts := [(0, .const (.int .i64 9))]) (ns := [1, 1, 1, 1, 1]) (zs := zpStmt) rfl rfl (by decide +kernel) (by decide +kernel) (by decide +kernel) (fun _ _ _ _ h => h) (st140.cellS (sb := 3) rfl (.head _) rfl rfl) rfl rfl kB64 kC64 (fun w a hl => by
 intro p hp; simp only [List.mem_cons, List.not_mem_nil, or_false] at hp
 rcases hp with rfl
 ·
  exact ⟨by decide, rfl⟩) (fun w a hl => Stmt.parts (x := (⟨(9 : Int), ⟨[]⟩, 0, ⟨[]⟩, 0⟩ : Stmt)) (OpdR.cells cI hl) zero_str ⟨rfl, trivial⟩ zero_str ⟨rfl, trivial⟩) (fun a141 st141 => ?_)
       refine st141.mvN (s := 46) (sb := 3) 8 5 ((PV.root.box rfl).fld owTree.f0) (.head _) rfl (fits_one rfl rfl) rfl rfl (by simp) (by simp) (by decide) rfl iI [41, 43, 44, 45, 50] rfl [0, 2] rfl rfl rfl rfl (by decide) (fun G142 H142 st142 => ?_)
       obtain ⟨v143, p143, h163⟩ := bs h133
       obtain ⟨v154, p154, h164⟩ := bs h163
       obtain ⟨v157, p157, h165⟩ := bs h164
       refine aH2 (i := 4) (j := 8) (by decide +kernel) rfl rfl ?_ ?_
       ·
        refine st142.seg 1 (sc rfl (xIaN rfl kS28 rfl cI (fun h => hA135 h rfl) p143) <| .nil) [44, 47, 50] rfl [(0, 4), (2, 7), (3, 8), (46, 5)] rfl ⟨iI, ⟨iI, ⟨iI, ⟨iI, trivial⟩⟩⟩⟩ (fun a166 w166 st166 => ?_)
        refine aHN (st166.hkS (sb := 3) rfl) ?_
        refine aH2 (i := 5) (j := 8) (by decide +kernel) rfl rfl ?_ ?_
        ·
         refine st166.seg 1 (sc rfl (xFa rfl kF61_5 (tp rfl)) <| .nil) [44, 48, 50] rfl [(0, 4), (2, 7), (3, 8), (46, 5)] rfl ⟨iI, ⟨iI, ⟨iI, ⟨iI, trivial⟩⟩⟩⟩ (fun a167 w167 st167 => ?_)
         refine aHN (st167.hkS (sb := 3) rfl) ?_
         refine aH2 (i := 6) (j := 8) (by decide +kernel) rfl rfl ?_ ?_
         ·
          refine st167.hdR (s := 46) 5 true (fun _ => ((PV.root.row rfl (fun h => hA135 h rfl) p143).fld owFile.f5)) rfl rfl iI [0, 2, 3] rfl (fun g168 A168 c168 hA168 st168 => ?_)
          refine st168.seg 1 (sc rfl (xLc (sb := 46) (.head _) rfl rfl rfl kT59 (tp rfl) rfl) <| .nil) [44, 49, 50] rfl [(0, 4), (2, 7), (3, 8), (46, 5)] rfl ⟨iI, ⟨iI, ⟨iI, ⟨iI, trivial⟩⟩⟩⟩ (fun a169 w169 st169 => ?_)
          refine aHN (st169.hkS (sb := 3) rfl) ?_
          refine aH1 (i := 8) (by decide +kernel) rfl ?_
          refine st169.seg 1 (sc rfl (op_lit (opds := [.tmp 50]) rfl kS59 kY59 rfl rfl (by decide) (.cons (tp rfl) .nil)) <| .nil) [44, 49, 51] rfl [(0, 4), (2, 7), (3, 8), (46, 5)] rfl ⟨iI, ⟨iI, ⟨iI, ⟨iI, trivial⟩⟩⟩⟩ (fun a170 w170 st170 => ?_)
          refine aHN (st170.hkS (sb := 3) rfl) ?_
          refine aH1 (i := 9) (by decide +kernel) rfl ?_
          refine st170.mvG (s := 49) (sb := 46) 5 6 ((PV.root.row rfl (fun h => hA135 h rfl) p143).fld owFile.f5) (.head _) rfl (fits_one rfl rfl) rfl (by simp) (by simp) (by decide) rfl iI [44, 51] rfl [0, 2, 3] rfl rfl rfl rfl (fun G172 H172 st172 => ?_)
          have st173 := st172.gs (Gs' := [oneB none, oneB none, oneB none, oneB none, G20, G172, H172, oneB (some b2), G142]) rfl
          refine st173.tipR (s := 49) 6 rfl rfl (by simp) iI [0, 2, 3, 46] rfl rfl (fun g174 st174 => ?_)
          refine st174.app 6 rfl rfl kE59 rfl rfl rfl row_dt p154 [44] rfl [0, 2, 3, 46] rfl rfl (fun g175 M175 a175 w175 st175 => ?_)
          have st176 := st175.gs (Gs' := [oneB none, oneB none, oneB none, oneB none, G20, G172, oneB g175, oneB (some b2), G142]) rfl
          refine aHN (st176.hkS (sb := 3) rfl) ?_
          refine aH1 (i := 10) (by decide +kernel) rfl ?_
          refine st176.seg 1 (sc rfl (xIa (g := g135) rfl kS28 (tp rfl) cI rfl (fun h => hA135 h rfl) p157) <| .nil) [53] rfl [(0, 4), (2, 7), (3, 8), (46, 5), (52, 6)] rfl ⟨iI, ⟨iI, ⟨iI, ⟨iI, ⟨iI, trivial⟩⟩⟩⟩⟩ (fun a177 w177 st177 => ?_)
          refine aHN (st177.hkS (sb := 3) rfl) ?_
          refine aH1 (i := 11) (by decide +kernel) rfl ?_
          refine st177.seg 1 (sc rfl (xFa rfl kF61_5 (tp rfl)) <| .nil) [54] rfl [(0, 4), (2, 7), (3, 8), (46, 5), (52, 6)] rfl ⟨iI, ⟨iI, ⟨iI, ⟨iI, ⟨iI, trivial⟩⟩⟩⟩⟩ (fun a178 w178 st178 => ?_)
          refine aHN (st178.hkS (sb := 3) rfl) ?_
          refine aH1 (i := 12) (by decide +kernel) rfl ?_
          have st180 := st178.tipW (s := 52) 6 rfl rfl iI [0, 2, 3, 46] rfl
          refine st180.stH (sb := 46) (tv := 52) 5 6 rfl rfl rfl kT59 (by simp) (by simp) (by decide) (tp rfl) rfl rfl iI iI [] rfl [0, 2, 3] rfl rfl rfl (fun G179 w179 st179 => ?_)
          have st181 := st179.gs (Gs' := [oneB none, oneB none, oneB none, oneB none, G20, G179, oneB none, oneB (some b2), G142]) rfl
          refine aHN (st181.hkS (sb := 3) rfl) ?_
          refine aH0 (by decide +kernel) ?_
          refine st181.stG (s := 46) (sb := 3) 8 5 rfl (by simp) (by simp) (by decide) rfl rfl iI iI [] rfl [0, 2] rfl rfl rfl (fun G182 st182 => ?_)
          have st183 := st182.gs (Gs' := [oneB none, oneB none, oneB none, oneB none, G20, oneB none, oneB none, oneB (some b2), G182]) rfl
          refine blk_normal ?_
          have st184 := st183.unm (s := 3) 8 rfl rfl iI [0, 2] rfl
          have st185 := st184.frzB (s := 3) 8 rfl (by simp) iI [] rfl [0, 2] rfl rfl
          refine then_normal ?_
          obtain rfl := Option.some.inj h165
          exact ⟨_, _, _, _, _, _, _, _, _, _, st185.sel [3] rfl [(2, 7), (0, 4)] rfl ⟨iI, ⟨iI, trivial⟩⟩⟩
         ·
          refine st167.seg 1 (sc rfl (op_lit (opds := [.tmp 50]) rfl kS59 kY59 rfl rfl (by decide) (.cons (tp rfl) .nil)) <| .nil) [44, 48, 51] rfl [(0, 4), (2, 7), (3, 8), (46, 5)] rfl ⟨iI, ⟨iI, ⟨iI, ⟨iI, trivial⟩⟩⟩⟩ (fun a186 w186 st186 => ?_)
          refine aHN (st186.hkS (sb := 3) rfl) ?_
          refine aH1 (i := 6) (by decide +kernel) rfl ?_
          refine st186.hdR (s := 46) 5 true (fun _ => ((PV.root.row rfl (fun h => hA135 h rfl) p143).fld owFile.f5)) rfl rfl iI [0, 2, 3] rfl (fun g187 A187 c187 hA187 st187 => ?_)
          refine st187.seg 1 (sc rfl (xLc (sb := 46) (.head _) rfl rfl rfl kT59 (tp rfl) rfl) <| .nil) [44, 49, 51] rfl [(0, 4), (2, 7), (3, 8), (46, 5)] rfl ⟨iI, ⟨iI, ⟨iI, ⟨iI, trivial⟩⟩⟩⟩ (fun a188 w188 st188 => ?_)
          refine aHN (st188.hkS (sb := 3) rfl) ?_
          refine aH1 (i := 9) (by decide +kernel) rfl ?_
          refine st188.mvG (s := 49) (sb := 46) 5 6 ((PV.root.row rfl (fun h => hA135 h rfl) p143).fld owFile.f5) (.head _) rfl (fits_one rfl rfl) rfl (by simp) (by simp) (by decide) rfl iI [44, 51] rfl [0, 2, 3] rfl rfl rfl rfl (fun G190 H190 st190 => ?_)
          have st191 := st190.gs (Gs' := [oneB none, oneB none, oneB none, oneB none, G20, G190, H190, oneB (some b2), G142]) rfl
          refine st191.tipR (s := 49) 6 rfl rfl (by simp) iI [0, 2, 3, 46] rfl rfl (fun g192 st192 => ?_)
          refine st192.app 6 rfl rfl kE59 rfl rfl rfl row_dt p154 [44] rfl [0, 2, 3, 46] rfl rfl (fun g193 M193 a193 w193 st193 => ?_)
          have st194 := st193.gs (Gs' := [oneB none, oneB none, oneB none, oneB none, G20, G190, oneB g193, oneB (some b2), G142]) rfl
          refine aHN (st194.hkS (sb := 3) rfl) ?_
          refine aH1 (i := 10) (by decide +kernel) rfl ?_
          refine st194.seg 1 (sc rfl (xIa (g := g135) rfl kS28 (tp rfl) cI rfl (fun h => hA135 h rfl) p157) <| .nil) [53] rfl [(0, 4), (2, 7), (3, 8), (46, 5), (52, 6)] rfl ⟨iI, ⟨iI, ⟨iI, ⟨iI, ⟨iI, trivial⟩⟩⟩⟩⟩ (fun a195 w195 st195 => ?_)
          refine aHN (st195.hkS (sb := 3) rfl) ?_
          refine aH1 (i := 11) (by decide +kernel) rfl ?_
          refine st195.seg 1 (sc rfl (xFa rfl kF61_5 (tp rfl)) <| .nil) [54] rfl [(0, 4), (2, 7), (3, 8), (46, 5), (52, 6)] rfl ⟨iI, ⟨iI, ⟨iI, ⟨iI, ⟨iI, trivial⟩⟩⟩⟩⟩ (fun a196 w196 st196 => ?_)
          refine aHN (st196.hkS (sb := 3) rfl) ?_
          refine aH1 (i := 12) (by decide +kernel) rfl ?_
          have st198 := st196.tipW (s := 52) 6 rfl rfl iI [0, 2, 3, 46] rfl
          refine st198.stH (sb := 46) (tv := 52) 5 6 rfl rfl rfl kT59 (by simp) (by simp) (by decide) (tp rfl) rfl rfl iI iI [] rfl [0, 2, 3] rfl rfl rfl (fun G197 w197 st197 => ?_)
          have st199 := st197.gs (Gs' := [oneB none, oneB none, oneB none, oneB none, G20, G197, oneB none, oneB (some b2), G142]) rfl
          refine aHN (st199.hkS (sb := 3) rfl) ?_
          refine aH0 (by decide +kernel) ?_
          refine st199.stG (s := 46) (sb := 3) 8 5 rfl (by simp) (by simp) (by decide) rfl rfl iI iI [] rfl [0, 2] rfl rfl rfl (fun G200 st200 => ?_)
          have st201 := st200.gs (Gs' := [oneB none, oneB none, oneB none, oneB none, G20, oneB none, oneB none, oneB (some b2), G200]) rfl
          refine blk_normal ?_
          have st202 := st201.unm (s := 3) 8 rfl rfl iI [0, 2] rfl
          have st203 := st202.frzB (s := 3) 8 rfl (by simp) iI [] rfl [0, 2] rfl rfl
          refine then_normal ?_
          obtain rfl := Option.some.inj h165
          exact ⟨_, _, _, _, _, _, _, _, _, _, st203.sel [3] rfl [(2, 7), (0, 4)] rfl ⟨iI, ⟨iI, trivial⟩⟩⟩
        ·
         refine st166.seg 1 (sc rfl (op_lit (opds := [.tmp 50]) rfl kS59 kY59 rfl rfl (by decide) (.cons (tp rfl) .nil)) <| .nil) [44, 47, 51] rfl [(0, 4), (2, 7), (3, 8), (46, 5)] rfl ⟨iI, ⟨iI, ⟨iI, ⟨iI, trivial⟩⟩⟩⟩ (fun a204 w204 st204 => ?_)
         refine aHN (st204.hkS (sb := 3) rfl) ?_
         refine aH1 (i := 5) (by decide +kernel) rfl ?_
         refine st204.seg 1 (sc rfl (xFa rfl kF61_5 (tp rfl)) <| .nil) [44, 48, 51] rfl [(0, 4), (2, 7), (3, 8), (46, 5)] rfl ⟨iI, ⟨iI, ⟨iI, ⟨iI, trivial⟩⟩⟩⟩ (fun a205 w205 st205 => ?_)
         refine aHN (st205.hkS (sb := 3) rfl) ?_
         refine aH1 (i := 6) (by decide +kernel) rfl ?_
         refine st205.hdR (s := 46) 5 true (fun _ => ((PV.root.row rfl (fun h => hA135 h rfl) p143).fld owFile.f5)) rfl rfl iI [0, 2, 3] rfl (fun g206 A206 c206 hA206 st206 => ?_)
         refine st206.seg 1 (sc rfl (xLc (sb := 46) (.head _) rfl rfl rfl kT59 (tp rfl) rfl) <| .nil) [44, 49, 51] rfl [(0, 4), (2, 7), (3, 8), (46, 5)] rfl ⟨iI, ⟨iI, ⟨iI, ⟨iI, trivial⟩⟩⟩⟩ (fun a207 w207 st207 => ?_)
         refine aHN (st207.hkS (sb := 3) rfl) ?_
         refine aH1 (i := 9) (by decide +kernel) rfl ?_
         refine st207.mvG (s := 49) (sb := 46) 5 6 ((PV.root.row rfl (fun h => hA135 h rfl) p143).fld owFile.f5) (.head _) rfl (fits_one rfl rfl) rfl (by simp) (by simp) (by decide) rfl iI [44, 51] rfl [0, 2, 3] rfl rfl rfl rfl (fun G209 H209 st209 => ?_)
         have st210 := st209.gs (Gs' := [oneB none, oneB none, oneB none, oneB none, G20, G209, H209, oneB (some b2), G142]) rfl
         refine st210.tipR (s := 49) 6 rfl rfl (by simp) iI [0, 2, 3, 46] rfl rfl (fun g211 st211 => ?_)
         refine st211.app 6 rfl rfl kE59 rfl rfl rfl row_dt p154 [44] rfl [0, 2, 3, 46] rfl rfl (fun g212 M212 a212 w212 st212 => ?_)
         have st213 := st212.gs (Gs' := [oneB none, oneB none, oneB none, oneB none, G20, G209, oneB g212, oneB (some b2), G142]) rfl
         refine aHN (st213.hkS (sb := 3) rfl) ?_
         refine aH1 (i := 10) (by decide +kernel) rfl ?_
         refine st213.seg 1 (sc rfl (xIa (g := g135) rfl kS28 (tp rfl) cI rfl (fun h => hA135 h rfl) p157) <| .nil) [53] rfl [(0, 4), (2, 7), (3, 8), (46, 5), (52, 6)] rfl ⟨iI, ⟨iI, ⟨iI, ⟨iI, ⟨iI, trivial⟩⟩⟩⟩⟩ (fun a214 w214 st214 => ?_)
         refine aHN (st214.hkS (sb := 3) rfl) ?_
         refine aH1 (i := 11) (by decide +kernel) rfl ?_
         refine st214.seg 1 (sc rfl (xFa rfl kF61_5 (tp rfl)) <| .nil) [54] rfl [(0, 4), (2, 7), (3, 8), (46, 5), (52, 6)] rfl ⟨iI, ⟨iI, ⟨iI, ⟨iI, ⟨iI, trivial⟩⟩⟩⟩⟩ (fun a215 w215 st215 => ?_)
         refine aHN (st215.hkS (sb := 3) rfl) ?_
         refine aH1 (i := 12) (by decide +kernel) rfl ?_
         have st217 := st215.tipW (s := 52) 6 rfl rfl iI [0, 2, 3, 46] rfl
         refine st217.stH (sb := 46) (tv := 52) 5 6 rfl rfl rfl kT59 (by simp) (by simp) (by decide) (tp rfl) rfl rfl iI iI [] rfl [0, 2, 3] rfl rfl rfl (fun G216 w216 st216 => ?_)
         have st218 := st216.gs (Gs' := [oneB none, oneB none, oneB none, oneB none, G20, G216, oneB none, oneB (some b2), G142]) rfl
         refine aHN (st218.hkS (sb := 3) rfl) ?_
         refine aH0 (by decide +kernel) ?_
         refine st218.stG (s := 46) (sb := 3) 8 5 rfl (by simp) (by simp) (by decide) rfl rfl iI iI [] rfl [0, 2] rfl rfl rfl (fun G219 st219 => ?_)
         have st220 := st219.gs (Gs' := [oneB none, oneB none, oneB none, oneB none, G20, oneB none, oneB none, oneB (some b2), G219]) rfl
         refine blk_normal ?_
         have st221 := st220.unm (s := 3) 8 rfl rfl iI [0, 2] rfl
         have st222 := st221.frzB (s := 3) 8 rfl (by simp) iI [] rfl [0, 2] rfl rfl
         refine then_normal ?_
         obtain rfl := Option.some.inj h165
         exact ⟨_, _, _, _, _, _, _, _, _, _, st222.sel [3] rfl [(2, 7), (0, 4)] rfl ⟨iI, ⟨iI, trivial⟩⟩⟩
       ·
        refine st142.seg 1 (sc rfl (op_lit (opds := [.tmp 50]) rfl kS59 kY59 rfl rfl (by decide) (.cons (tp rfl) .nil)) <| .nil) [44, 51] rfl [(0, 4), (2, 7), (3, 8), (46, 5)] rfl ⟨iI, ⟨iI, ⟨iI, ⟨iI, trivial⟩⟩⟩⟩ (fun a223 w223 st223 => ?_)
        refine aHN (st223.hkS (sb := 3) rfl) ?_
        refine aH1 (i := 4) (by decide +kernel) rfl ?_
        refine st223.seg 1 (sc rfl (xIaN rfl kS28 rfl cI (fun h => hA135 h rfl) p143) <| .nil) [44, 47, 51] rfl [(0, 4), (2, 7), (3, 8), (46, 5)] rfl ⟨iI, ⟨iI, ⟨iI, ⟨iI, trivial⟩⟩⟩⟩ (fun a224 w224 st224 => ?_)
        refine aHN (st224.hkS (sb := 3) rfl) ?_
        refine aH1 (i := 5) (by decide +kernel) rfl ?_
        refine st224.seg 1 (sc rfl (xFa rfl kF61_5 (tp rfl)) <| .nil) [44, 48, 51] rfl [(0, 4), (2, 7), (3, 8), (46, 5)] rfl ⟨iI, ⟨iI, ⟨iI, ⟨iI, trivial⟩⟩⟩⟩ (fun a225 w225 st225 => ?_)
        refine aHN (st225.hkS (sb := 3) rfl) ?_
        refine aH1 (i := 6) (by decide +kernel) rfl ?_
        refine st225.hdR (s := 46) 5 true (fun _ => ((PV.root.row rfl (fun h => hA135 h rfl) p143).fld owFile.f5)) rfl rfl iI [0, 2, 3] rfl (fun g226 A226 c226 hA226 st226 => ?_)
        refine st226.seg 1 (sc rfl (xLc (sb := 46) (.head _) rfl rfl rfl kT59 (tp rfl) rfl) <| .nil) [44, 49, 51] rfl [(0, 4), (2, 7), (3, 8), (46, 5)] rfl ⟨iI, ⟨iI, ⟨iI, ⟨iI, trivial⟩⟩⟩⟩ (fun a227 w227 st227 => ?_)
        refine aHN (st227.hkS (sb := 3) rfl) ?_
        refine aH1 (i := 9) (by decide +kernel) rfl ?_
        refine st227.mvG (s := 49) (sb := 46) 5 6 ((PV.root.row rfl (fun h => hA135 h rfl) p143).fld owFile.f5) (.head _) rfl (fits_one rfl rfl) rfl (by simp) (by simp) (by decide) rfl iI [44, 51] rfl [0, 2, 3] rfl rfl rfl rfl (fun G229 H229 st229 => ?_)
        have st230 := st229.gs (Gs' := [oneB none, oneB none, oneB none, oneB none, G20, G229, H229, oneB (some b2), G142]) rfl
        refine st230.tipR (s := 49) 6 rfl rfl (by simp) iI [0, 2, 3, 46] rfl rfl (fun g231 st231 => ?_)
        refine st231.app 6 rfl rfl kE59 rfl rfl rfl row_dt p154 [44] rfl [0, 2, 3, 46] rfl rfl (fun g232 M232 a232 w232 st232 => ?_)
        have st233 := st232.gs (Gs' := [oneB none, oneB none, oneB none, oneB none, G20, G229, oneB g232, oneB (some b2), G142]) rfl
        refine aHN (st233.hkS (sb := 3) rfl) ?_
        refine aH1 (i := 10) (by decide +kernel) rfl ?_
        refine st233.seg 1 (sc rfl (xIa (g := g135) rfl kS28 (tp rfl) cI rfl (fun h => hA135 h rfl) p157) <| .nil) [53] rfl [(0, 4), (2, 7), (3, 8), (46, 5), (52, 6)] rfl ⟨iI, ⟨iI, ⟨iI, ⟨iI, ⟨iI, trivial⟩⟩⟩⟩⟩ (fun a234 w234 st234 => ?_)
        refine aHN (st234.hkS (sb := 3) rfl) ?_
        refine aH1 (i := 11) (by decide +kernel) rfl ?_
        refine st234.seg 1 (sc rfl (xFa rfl kF61_5 (tp rfl)) <| .nil) [54] rfl [(0, 4), (2, 7), (3, 8), (46, 5), (52, 6)] rfl ⟨iI, ⟨iI, ⟨iI, ⟨iI, ⟨iI, trivial⟩⟩⟩⟩⟩ (fun a235 w235 st235 => ?_)
        refine aHN (st235.hkS (sb := 3) rfl) ?_
        refine aH1 (i := 12) (by decide +kernel) rfl ?_
        have st237 := st235.tipW (s := 52) 6 rfl rfl iI [0, 2, 3, 46] rfl
        refine st237.stH (sb := 46) (tv := 52) 5 6 rfl rfl rfl kT59 (by simp) (by simp) (by decide) (tp rfl) rfl rfl iI iI [] rfl [0, 2, 3] rfl rfl rfl (fun G236 w236 st236 => ?_)
        have st238 := st236.gs (Gs' := [oneB none, oneB none, oneB none, oneB none, G20, G236, oneB none, oneB (some b2), G142]) rfl
        refine aHN (st238.hkS (sb := 3) rfl) ?_
        refine aH0 (by decide +kernel) ?_
        refine st238.stG (s := 46) (sb := 3) 8 5 rfl (by simp) (by simp) (by decide) rfl rfl iI iI [] rfl [0, 2] rfl rfl rfl (fun G239 st239 => ?_)
        have st240 := st239.gs (Gs' := [oneB none, oneB none, oneB none, oneB none, G20, oneB none, oneB none, oneB (some b2), G239]) rfl
        refine blk_normal ?_
        have st241 := st240.unm (s := 3) 8 rfl rfl iI [0, 2] rfl
        have st242 := st241.frzB (s := 3) 8 rfl (by simp) iI [] rfl [0, 2] rfl rfl
        refine then_normal ?_
        obtain rfl := Option.some.inj h165
        exact ⟨_, _, _, _, _, _, _, _, _, _, st242.sel [3] rfl [(2, 7), (0, 4)] rfl ⟨iI, ⟨iI, trivial⟩⟩⟩
      ·
       refine wp_skip (blk_normal ?_)
       have st243 := st132.unm (s := 3) 8 rfl rfl iI [0, 2] rfl
       have st244 := st243.frzB (s := 3) 8 rfl (by simp) iI [41] rfl [0, 2] rfl rfl
       refine then_normal ?_
       obtain rfl := Option.some.inj h134
       exact ⟨_, _, _, _, _, _, _, _, _, _, st244.sel [3] rfl [(2, 7), (0, 4)] rfl ⟨iI, ⟨iI, trivial⟩⟩⟩
  ·
   refine wp_skip ?_
   have st245 := st16.unm (s := 3) 8 rfl rfl iI [0, 2] rfl
   have st246 := st245.frzB (s := 3) 8 rfl (by simp) iI [9] rfl [0, 2] rfl rfl
   refine then_normal ?_
   obtain rfl := Option.some.inj h18
   exact ⟨_, _, _, _, _, _, _, _, _, _, st246.sel [3] rfl [(2, 7), (0, 4)] rfl ⟨iI, ⟨iI, trivial⟩⟩⟩
 ·
  rintro a13 w13 ⟨M13, q13_0, q13_1, q13_2, q13_3, q13_4, q13_5, q13_6, q13_7, q13_8, st13⟩
  have h247 := k13
  refine wp_seq (wp_region_list ?_)
  refine st13.seg 1 (
   sc rfl (op_load rfl kT30 (tp rfl)) <| .nil) [55] rfl [(0, 4), (2, 7)] rfl ⟨iI, ⟨iI, trivial⟩⟩ (fun a248 w248 st248 => ?_)
  refine st248.store (sb := 2) 7 FldS.id rfl rfl rfl kT30 rfl rfl (tp rfl) rfl [] rfl [0] rfl rfl (fun M250 w250 st250 => ?_)
  refine wpList_nil (then_normal (wp_ret ?_))
  exact st250.rsC (s := 0) 4 rfl kT30 rfl rfl iI (bxr h247)
end Go.Proofs.YtbnibckkfknpkaaGreatDoor
namespace Go.Proofs.YtbnibckkfknpkaaGreatDoor
open Go.RowKit
set_option maxRecDepth 10000
set_option maxHeartbeats 1600000
theorem kN115 : fnB Tryz.prog 115 = true := by kernel_rfl
theorem kN116 : fnB Tryz.prog 116 = true := by kernel_rfl
theorem kN110 : fnB Tryz.prog 110 = true := by kernel_rfl
theorem kN118 : fnB Tryz.prog 118 = true := by kernel_rfl
theorem kN74 : fnB Tryz.prog 74 = true := by kernel_rfl
theorem kN73 : fnB Tryz.prog 73 = true := by kernel_rfl
theorem kN29 : fnB Tryz.prog 29 = true := by kernel_rfl
theorem kN32 : fnB Tryz.prog 32 = true := by kernel_rfl
theorem kN35 : fnB Tryz.prog 35 = true := by kernel_rfl
theorem kN46 : fnB Tryz.prog 46 = true := by kernel_rfl
def m_spec_nameOf (x0 : Reader) : Option (Reader × Tree × (List Int) × Str) :=
(m_spec_anyTree x0).bind fun v6 =>
(m_spec_anyPath v6.1).bind fun v15 =>
(gO (cmpI .gtr (v6.2.files.length : Int) (0 : Int) == true) (m_spec_reader_pick v15.1 (4 : Int))).bind fun v20 =>
if (cmpI .gtr (v6.2.files.length : Int) (0 : Int) && cmpI .gtr v20.2 (0 : Int)) = true then ((m_spec_reader_pick (if (cmpI .gtr (v6.2.files.length : Int) (0 : Int) == true) = true then v20.1 else v15.1) (v6.2.files.length : Int)).bind fun v36 =>
(atI v6.2.files v36.2).bind fun v38 =>
(m_spec_moduleName v38).bind fun v41 =>
some (v36.1, v6.2, v15.2, v41))
else ((m_spec_anyName (if (cmpI .gtr (v6.2.files.length : Int) (0 : Int) == true) = true then v20.1 else v15.1)).bind fun v76 =>
some (v76.1, v6.2, v15.2, v76.2))
theorem spec_nameOf_w {x0 : Reader} {r : Reader × Tree × (List Int) × Str} (h : m_spec_nameOf x0 = some r) : FnS Tryz.prog 73 (Ow.box (Ow.frz (α := Reader))) ⟨x0⟩ [] ⟨r.1⟩ (.frz (dtup [dt r.2.1, dt r.2.2.1, dt r.2.2.2])) := by
 unfold m_spec_nameOf at h
 refine fnSB (fn := Tryz.f73) 0 3 Tryz.func73 rfl (of_decide_eq_true rfl) rfl (fun M G w0 b0 a0 st0 => ?_)
 refine wp_seq (wp_region_list ?_)
 refine st0.alloc 1 rfl rfl kZ30 zrTree (by simp) [] rfl [0] rfl rfl (fun b2 M2 a2 w2 st2 => ?_)
 refine st2.seg 2 (
  sc rfl (oA rfl (opd_nil (α := Int))) <|
  sc rfl (oA rfl (opd_str (by decide))) <| .nil) [] rfl [(0, 0), (2, 1)] rfl ⟨iI, ⟨iI, trivial⟩⟩ (fun a3 w3 st3 => ?_)
 refine wpList_nil (then_normal (wp_seq (wp_region_list ?_)))
 refine st3.seg 1 (
  sc rfl (oM rfl (tp rfl)) <| .nil) [] rfl [(0, 0), (2, 1), (7, 0)] rfl ⟨iI, ⟨iI, ⟨iI, trivial⟩⟩⟩ (fun a4 w4 st4 => ?_)
 obtain ⟨v6, p6, h7⟩ := bs h
 refine st4.cSF (l := []) 0 (st4.bkN (s := 0) rfl iI) rfl rfl kN115 ((st4.st.has 7 _ rfl).1.trans (st4.st.has 0 _ rfl).1.symm) (by simp) .nil (spec_anyTree_w p6) [] rfl [2] rfl rfl (by decide) (fun G5 M5 a5 w5 st5 => ?_)
 refine st5.alloc 2 rfl rfl kZ30 zrTree (by simp) [8] rfl [0, 2] rfl rfl (fun b9 M9 a9 w9 st9 => ?_)
 refine st9.store (sb := 5) 2 FldS.id rfl rfl rfl kT30 rfl rfl (tp rfl) rfl [] rfl [0, 2] rfl rfl (fun M11 w11 st11 => ?_)
 have st12 := st11.frzX 2 (s := 5) rfl rfl [] rfl [0, 2] rfl
 refine wpList_nil (then_normal (wp_seq (wp_region_list ?_)))
 refine st12.seg 1 (
  sc rfl (oM rfl (tp rfl)) <| .nil) [5] rfl [(0, 0), (2, 1), (9, 0)] rfl ⟨iI, ⟨iI, ⟨iI, trivial⟩⟩⟩ (fun a13 w13 st13 => ?_)
 obtain ⟨v15, p15, h16⟩ := bs h7
 refine st13.cSF (l := []) 0 (st13.bkN (s := 0) rfl iI) rfl rfl kN116 ((st13.st.has 9 _ rfl).1.trans (st13.st.has 0 _ rfl).1.symm) (by simp) .nil (spec_anyPath_w p15) [5] rfl [2] rfl rfl (by decide) (fun G14 M14 a14 w14 st14 => ?_)
 refine st14.seg 1 (
  sc rfl (oA rfl (tp rfl)) <| .nil) [5, 6] rfl [(0, 0), (2, 1)] rfl ⟨iI, ⟨iI, trivial⟩⟩ (fun a17 w17 st17 => ?_)
 refine wpList_nil (then_normal (wp_seq (wp_seq (wp_region_list ?_))))
 refine st17.seg 6 (
  sc rfl (op_field Tree.fld0 rfl kF30_0 (tp rfl)) <|
  sc rfl (op_load rfl kT28 (tp rfl)) <|
  sc rfl (op_lenL rfl kL28 (tp rfl)) <|
  sc rfl (oCI rfl (tp rfl) cI) <|
  sc rfl (oM rfl (tp rfl)) <|
  sg rfl rfl (fun hg => oM rfl (opd_nm rfl)) <| .nil) [5, 6, 15, 16] rfl [(0, 0), (2, 1)] rfl ⟨iI, ⟨iI, trivial⟩⟩ (fun a18 w18 st18 => ?_)
 obtain ⟨v20, p20, h21⟩ := bs h16
 refine st18.cSFgB (sb := 0) (l := [.const (.int .i64 4)]) 0 rfl iI rfl rfl rfl kN117 (fun hg => (st18.st.has 16 _ rfl).1 hg) (by simp) (fun hg => (.cons cI .nil)) (fun hg => spec_reader_pick_w (gh hg p20)) [5, 6, 15] rfl [2] rfl rfl (by decide) (fun G19 M19 a19 w19 st19 => ?_)
 refine st19.seg 2 (
  sg rfl rfl (fun hg => oCI rfl (opd_g hg rfl) cI) <|
  sc rfl (op_and rfl (tp rfl) (opd_tmp rfl)) <| .nil) [5, 6, 19] rfl [(0, 0), (2, 1)] rfl ⟨iI, ⟨iI, trivial⟩⟩ (fun a22 w22 st22 => ?_)
 refine wpList_nil (then_normal ?_)
 refine st22.cs (c := 19) rfl h21 (fun c23 h23 => ?_) (fun c24 h24 => ?_)
 ·
  refine wp_seq ?_
  refine st22.opn (s := 5) rfl (fun b25 o25 c25 st25 => ?_)
  refine st25.held (fun w => CellsAt w b25 o25 c25) Tryz_mixed (fun w26 st26 => ?_)
  refine st26.tkW (i := 0) (sb := 5) rfl rfl (by decide +kernel) (by decide +kernel) (by decide +kernel) (fun _ _ _ _ h => h) rfl rfl kT30 rfl (fun a27 st27 => ?_)
  refine st27.tkM (i := 1) (sb := 6) rfl rfl (by decide +kernel) (by decide +kernel) (by decide +kernel) (fun _ _ _ _ h => h) (st27.pkS (s := 5) rfl) rfl rfl rfl rfl (fun a28 st28 => ?_)
  refine st28.tkA (i := 2) (sb := 5) rfl rfl (by decide +kernel) (by decide +kernel) (by decide +kernel) (fun _ _ _ _ h => h) rfl rfl kF30_0 rfl (fun a29 st29 => ?_)
  refine st29.tkF (i := 3) (sb := 5) (s2 := 22) Tree.fld0 rfl rfl (by decide +kernel) (by decide +kernel) (by decide +kernel) (fun _ _ _ _ h => h) rfl rfl rfl kT28 rfl (fun a30 st30 => ?_)
  refine st30.tkA (i := 5) (sb := 5) rfl rfl (by decide +kernel) (by decide +kernel) (by decide +kernel) (fun _ _ _ _ h => h) rfl rfl kF30_0 rfl (fun a31 st31 => ?_)
  refine st31.tkF (i := 6) (sb := 5) (s2 := 25) Tree.fld0 rfl rfl (by decide +kernel) (by decide +kernel) (by decide +kernel) (fun _ _ _ _ h => h) rfl rfl rfl kT28 rfl (fun a32 st32 => ?_)
  obtain ⟨v36, p36, h47⟩ := bs h23
  obtain ⟨v38, p38, h48⟩ := bs h47
  obtain ⟨v41, p41, h49⟩ := bs h48
  refine aH2 (i := 4) (j := 7) (by decide +kernel) rfl rfl ?_ ?_
  ·
   refine st32.seg 1 (sc rfl (oM rfl (tp rfl)) <| .nil) [5, 20, 21, 23, 26] rfl [(0, 0), (2, 1), (24, 0)] rfl ⟨iI, ⟨iI, ⟨iI, trivial⟩⟩⟩ (fun a50 w50 st50 => ?_)
   refine aHN (st50.pkS (s := 5) rfl) ?_
   refine aH1 (i := 7) (by decide +kernel) rfl ?_
   refine st50.seg 1 (sc rfl (op_lenL rfl kL28 (tp rfl)) <| .nil) [5, 20, 21, 23, 27] rfl [(0, 0), (2, 1), (24, 0)] rfl ⟨iI, ⟨iI, ⟨iI, trivial⟩⟩⟩ (fun a51 w51 st51 => ?_)
   refine aHN (st51.pkS (s := 5) rfl) ?_
   refine aH1 (i := 8) (by decide +kernel) rfl ?_
   refine st51.cSF (l := [.tmp 27]) 0 (st51.bkN (s := 0) rfl iI) rfl rfl kN117 ((st51.st.has 24 _ rfl).1.trans (st51.st.has 0 _ rfl).1.symm) (by simp) (.cons (tp rfl) .nil) (spec_reader_pick_w p36) [5, 20, 21, 23] rfl [2] rfl rfl (by decide) (fun G52 M52 a52 w52 st52 => ?_)
   refine aHN (st52.pkS (s := 5) rfl) ?_
   refine aH1 (i := 9) (by decide +kernel) rfl ?_
   refine st52.seg 1 (sc rfl (xIdx rfl kS28 (tp rfl) (tp rfl) p38) <| .nil) [5, 20, 21, 29] rfl [(0, 0), (2, 1)] rfl ⟨iI, ⟨iI, trivial⟩⟩ (fun a53 w53 st53 => ?_)
   refine aHN (st53.pkS (s := 5) rfl) ?_
   refine aH1 (i := 10) (by decide +kernel) rfl ?_
   refine st53.seg 1 (sc rfl (op_load rfl kT61 (tp rfl)) <| .nil) [5, 20, 21, 30] rfl [(0, 0), (2, 1)] rfl ⟨iI, ⟨iI, trivial⟩⟩ (fun a54 w54 st54 => ?_)
   refine aHN (st54.pkS (s := 5) rfl) ?_
   refine aH1 (i := 11) (by decide +kernel) rfl ?_
   refine st54.seg 1 (sc rfl (op_call (l := [.tmp 30]) rfl kN110 (.cons (tp rfl) .nil) (spec_moduleName_w p41)) <| .nil) [5, 20, 21, 31] rfl [(0, 0), (2, 1)] rfl ⟨iI, ⟨iI, trivial⟩⟩ (fun a55 w55 st55 => ?_)
   refine aHN (st55.pkS (s := 5) rfl) ?_
   refine aH1 (i := 12) (by decide +kernel) rfl ?_
   refine st55.store (sb := 2) 1 FldS.id rfl rfl rfl kT30 rfl rfl (tp rfl) rfl [5, 21, 31] rfl [0] rfl rfl (fun M57 w57 st57 => ?_)
   refine aHN (st57.pkS (s := 5) rfl) ?_
   refine aH1 (i := 13) (by decide +kernel) rfl ?_
   refine st57.seg 1 (sc rfl (oA rfl (tp rfl)) <| .nil) [3, 5, 31] rfl [(0, 0), (2, 1)] rfl ⟨iI, ⟨iI, trivial⟩⟩ (fun a58 w58 st58 => ?_)
   refine aHN (st58.pkS (s := 5) rfl) ?_
   refine aH1 (i := 14) (by decide +kernel) rfl ?_
   refine st58.seg 1 (sc rfl (oA rfl (tp rfl)) <| .nil) [3, 4, 5] rfl [(0, 0), (2, 1)] rfl ⟨iI, ⟨iI, trivial⟩⟩ (fun a59 w59 st59 => ?_)
   refine aHN (st59.pkS (s := 5) rfl) ?_
   refine aH0 (by decide +kernel) ?_
   refine then_normal ?_
   refine wp_ret (thn_ret ?_)
   exact st59.rs3C (s := 0) 0 rfl kT30 rfl rfl rfl rfl iI (bxr h49)
  ·
   refine st32.seg 1 (sc rfl (op_lenL rfl kL28 (tp rfl)) <| .nil) [5, 20, 21, 23, 27] rfl [(0, 0), (2, 1)] rfl ⟨iI, ⟨iI, trivial⟩⟩ (fun a60 w60 st60 => ?_)
   refine aHN (st60.pkS (s := 5) rfl) ?_
   refine aH1 (i := 4) (by decide +kernel) rfl ?_
   refine st60.seg 1 (sc rfl (oM rfl (tp rfl)) <| .nil) [5, 20, 21, 23, 27] rfl [(0, 0), (2, 1), (24, 0)] rfl ⟨iI, ⟨iI, ⟨iI, trivial⟩⟩⟩ (fun a61 w61 st61 => ?_)
   refine aHN (st61.pkS (s := 5) rfl) ?_
   refine aH1 (i := 8) (by decide +kernel) rfl ?_
   refine st61.cSF (l := [.tmp 27]) 0 (st61.bkN (s := 0) rfl iI) rfl rfl kN117 ((st61.st.has 24 _ rfl).1.trans (st61.st.has 0 _ rfl).1.symm) (by simp) (.cons (tp rfl) .nil) (spec_reader_pick_w p36) [5, 20, 21, 23] rfl [2] rfl rfl (by decide) (fun G62 M62 a62 w62 st62 => ?_)
   refine aHN (st62.pkS (s := 5) rfl) ?_
   refine aH1 (i := 9) (by decide +kernel) rfl ?_
   refine st62.seg 1 (sc rfl (xIdx rfl kS28 (tp rfl) (tp rfl) p38) <| .nil) [5, 20, 21, 29] rfl [(0, 0), (2, 1)] rfl ⟨iI, ⟨iI, trivial⟩⟩ (fun a63 w63 st63 => ?_)
   refine aHN (st63.pkS (s := 5) rfl) ?_
   refine aH1 (i := 10) (by decide +kernel) rfl ?_
   refine st63.seg 1 (sc rfl (op_load rfl kT61 (tp rfl)) <| .nil) [5, 20, 21, 30] rfl [(0, 0), (2, 1)] rfl ⟨iI, ⟨iI, trivial⟩⟩ (fun a64 w64 st64 => ?_)
   refine aHN (st64.pkS (s := 5) rfl) ?_
   refine aH1 (i := 11) (by decide +kernel) rfl ?_
   refine st64.seg 1 (sc rfl (op_call (l := [.tmp 30]) rfl kN110 (.cons (tp rfl) .nil) (spec_moduleName_w p41)) <| .nil) [5, 20, 21, 31] rfl [(0, 0), (2, 1)] rfl ⟨iI, ⟨iI, trivial⟩⟩ (fun a65 w65 st65 => ?_)
   refine aHN (st65.pkS (s := 5) rfl) ?_
   refine aH1 (i := 12) (by decide +kernel) rfl ?_
   refine st65.store (sb := 2) 1 FldS.id rfl rfl rfl kT30 rfl rfl (tp rfl) rfl [5, 21, 31] rfl [0] rfl rfl (fun M67 w67 st67 => ?_)
   refine aHN (st67.pkS (s := 5) rfl) ?_
   refine aH1 (i := 13) (by decide +kernel) rfl ?_
   refine st67.seg 1 (sc rfl (oA rfl (tp rfl)) <| .nil) [3, 5, 31] rfl [(0, 0), (2, 1)] rfl ⟨iI, ⟨iI, trivial⟩⟩ (fun a68 w68 st68 => ?_)
   refine aHN (st68.pkS (s := 5) rfl) ?_
   refine aH1 (i := 14) (by decide +kernel) rfl ?_
   refine st68.seg 1 (sc rfl (oA rfl (tp rfl)) <| .nil) [3, 4, 5] rfl [(0, 0), (2, 1)] rfl ⟨iI, ⟨iI, trivial⟩⟩ (fun a69 w69 st69 => ?_)
   refine aHN (st69.pkS (s := 5) rfl) ?_
   refine aH0 (by decide +kernel) ?_
   refine then_normal ?_
   refine wp_ret (thn_ret ?_)
   exact st69.rs3C (s := 0) 0 rfl kT30 rfl rfl rfl rfl iI (bxr h49)
 ·
  refine wp_skip (then_normal (wp_seq ?_))
  refine st22.opn (s := 5) rfl (fun b70 o70 c70 st70 => ?_)
  refine st70.held (fun w => CellsAt w b70 o70 c70) Tryz_mixed (fun w71 st71 => ?_)
  refine st71.tkW (i := 0) (sb := 5) rfl rfl (by decide +kernel) (by decide +kernel) (by decide +kernel) (fun _ _ _ _ h => h) rfl rfl kT30 rfl (fun a72 st72 => ?_)
  refine st72.tkM (i := 1) (sb := 6) rfl rfl (by decide +kernel) (by decide +kernel) (by decide +kernel) (fun _ _ _ _ h => h) (st72.pkS (s := 5) rfl) rfl rfl rfl rfl (fun a73 st73 => ?_)
  obtain ⟨v76, p76, h82⟩ := bs h24
  refine aH1 (i := 2) (by decide +kernel) rfl ?_
  refine st73.seg 1 (sc rfl (oM rfl (tp rfl)) <| .nil) [5, 32, 33] rfl [(0, 0), (2, 1), (34, 0)] rfl ⟨iI, ⟨iI, ⟨iI, trivial⟩⟩⟩ (fun a83 w83 st83 => ?_)
  refine aHN (st83.pkS (s := 5) rfl) ?_
  refine aH1 (i := 3) (by decide +kernel) rfl ?_
  refine st83.cSF (l := []) 0 (st83.bkN (s := 0) rfl iI) rfl rfl kN118 ((st83.st.has 34 _ rfl).1.trans (st83.st.has 0 _ rfl).1.symm) (by simp) .nil (spec_anyName_w p76) [5, 32, 33] rfl [2] rfl rfl (by decide) (fun G84 M84 a84 w84 st84 => ?_)
  refine aHN (st84.pkS (s := 5) rfl) ?_
  refine aH1 (i := 4) (by decide +kernel) rfl ?_
  refine st84.store (sb := 2) 1 FldS.id rfl rfl rfl kT30 rfl rfl (tp rfl) rfl [5, 33, 35] rfl [0] rfl rfl (fun M86 w86 st86 => ?_)
  refine aHN (st86.pkS (s := 5) rfl) ?_
  refine aH1 (i := 5) (by decide +kernel) rfl ?_
  refine st86.seg 1 (sc rfl (oA rfl (tp rfl)) <| .nil) [3, 5, 35] rfl [(0, 0), (2, 1)] rfl ⟨iI, ⟨iI, trivial⟩⟩ (fun a87 w87 st87 => ?_)
  refine aHN (st87.pkS (s := 5) rfl) ?_
  refine aH1 (i := 6) (by decide +kernel) rfl ?_
  refine st87.seg 1 (sc rfl (oA rfl (tp rfl)) <| .nil) [3, 4, 5] rfl [(0, 0), (2, 1)] rfl ⟨iI, ⟨iI, trivial⟩⟩ (fun a88 w88 st88 => ?_)
  refine aHN (st88.pkS (s := 5) rfl) ?_
  refine aH0 (by decide +kernel) ?_
  refine then_normal (wp_ret ?_)
  exact st88.rs3C (s := 0) 0 rfl kT30 rfl rfl rfl rfl iI (bxr h82)
def m_spec_DrawUsersOf (x0 : List UInt8) : Option (Tree × (List Int) × Str) :=
(m_spec_newReader x0).bind fun v6 =>
(m_spec_nameOf v6).bind fun v9 =>
some (v9.2.1, v9.2.2.1, v9.2.2.2)
theorem spec_DrawUsersOf_w {x0 : List UInt8} {r : Tree × (List Int) × Str} (h : m_spec_DrawUsersOf x0 = some r) : Fn Tryz.prog 46 [dt x0] (dtup [dt r.1, dt r.2.1, dt r.2.2]) := by
 unfold m_spec_DrawUsersOf at h
 refine fnx (fn := Tryz.f46) 2 Tryz.func46 rfl (of_decide_eq_true rfl) rfl (fun M w0 a0 st0 => ?_)
 refine wp_seq (wp_region_list ?_)
 refine st0.alloc 1 rfl rfl kZ30 zrTree (by simp) [0] rfl [] rfl rfl (fun b2 M2 a2 w2 st2 => ?_)
 refine st2.seg 2 (
  sc rfl (oA rfl (opd_nil (α := Int))) <|
  sc rfl (oA rfl (opd_str (by decide))) <| .nil) [0] rfl [(2, 1)] rfl ⟨iI, trivial⟩ (fun a3 w3 st3 => ?_)
 refine wpList_nil (then_normal (wp_seq (wp_region_list ?_)))
 refine st3.seg 1 (
  sc rfl (oM rfl (tp rfl)) <| .nil) [5] rfl [(2, 1)] rfl ⟨iI, trivial⟩ (fun a4 w4 st4 => ?_)
 obtain ⟨v6, p6, h7⟩ := bs h
 refine st4.cN (l := [.tmp 5]) 0 rfl rfl kN74 (.cons (tp rfl) .nil) (spec_newReader_w p6) (by simp) [] rfl [2] rfl rfl (fun G5 M5 a5 w5 st5 => ?_)
 obtain ⟨v9, p9, h10⟩ := bs h7
 refine st5.cSF (l := []) 0 (st5.bkR (s := 6) rfl iI) rfl rfl kN73 rfl (by simp) .nil (spec_nameOf_w p9) [] rfl [2] rfl rfl (by decide) (fun G8 M8 a8 w8 st8 => ?_)
 refine st8.seg 3 (
  sc rfl (xExt (i := 0) rfl (tp rfl) rfl) <|
  sc rfl (xExt (i := 1) rfl (tp rfl) rfl) <|
  sc rfl (xExt (i := 2) rfl (tp rfl) rfl) <| .nil) [8, 9, 10] rfl [(2, 1)] rfl ⟨iI, trivial⟩ (fun a11 w11 st11 => ?_)
 refine st11.store (sb := 2) 1 FldS.id rfl rfl rfl kT30 rfl rfl (tp rfl) rfl [9, 10] rfl [] rfl rfl (fun M13 w13 st13 => ?_)
 refine st13.seg 2 (
  sc rfl (oA rfl (tp rfl)) <|
  sc rfl (oA rfl (tp rfl)) <| .nil) [3, 4] rfl [(2, 1)] rfl ⟨iI, trivial⟩ (fun a14 w14 st14 => ?_)
 refine wpList_nil (then_normal (wp_ret ?_))
 obtain rfl := Option.some.inj h10
 exact st14.ret3c rfl kT30 rfl (st14.frozen (t := 3) rfl) (st14.frozen (t := 4) rfl) ⟨rfl, rfl⟩ rfl
def m_laws_FnUsersOf_s0 (v6 : Tree × (List Int) × Str) (v14 : List Str) (v35 : List Str) (s40 : Int) : Option (Int ⊕ (Unit ⊕ Bool)) :=
if (cmpI .lss s40 (v35.length : Int)) = true then ((atI v35 s40).bind fun v45 =>
(m_laws_hasText v14 v45).bind fun v46 =>
(atI v35 s40).bind fun v47 =>
(m_impl_EdgesOf v6.1 v6.2.1 v47).bind fun v48 =>
(m_laws_hasText v48 v6.2.2).bind fun v49 =>
if (v46 != v49) = true then (some (.inr (.inr false)))
else ((i64 (s40 + (1 : Int))).bind fun v61 =>
some (.inl v61)))
else (some (.inr (.inl ())))
def m_laws_FnUsersOf (x0 : List UInt8) : Option Bool :=
if (cmpI .gtr (x0.length : Int) (1048576 : Int)) = true then (some true)
else ((m_spec_DrawUsersOf x0).bind fun v6 =>
(m_impl_UsersOf v6.1 v6.2.1 v6.2.2).bind fun v14 =>
(m_spec_UsersOf v6.1 v6.2.1 v6.2.2).bind fun v17 =>
(m_laws_equalTexts v14 v17).bind fun v18 =>
(gO ((!v18) == false) (m_impl_ValidTree v6.1)).bind fun v19 =>
(gO (((!v18) || (!v19)) == false) (m_impl_ValidPath v6.2.1)).bind fun v20 =>
(gO ((((!v18) || (!v19)) || (!v20)) == false) (m_impl_ValidName v6.2.2)).bind fun v21 =>
if ((((!v18) || (!v19)) || (!v20)) || (!v21)) = true then ((m_spec_UsersOf v6.1 v6.2.1 v6.2.2).bind fun v30 =>
(m_laws_equalTexts v14 v30).bind fun v31 =>
some v31)
else ((m_impl_FoundNames v6.1 v6.2.1).bind fun v35 =>
Option.bind (α := Unit ⊕ Bool) (loopM (fun s40 => m_laws_FnUsersOf_s0 v6 v14 v35 s40) (0 : Int)) (Sum.elim (fun _b38 =>
(m_laws_rises v14).bind fun v66 =>
(gO (v66 == true) (m_laws_withinTexts v14 v35)).bind fun v67 =>
some (v66 && v67)) some)))
theorem laws_FnUsersOf_w {x0 : List UInt8} {r : Bool} (h : m_laws_FnUsersOf x0 = some r) : Fn Tryz.prog 8 [dt x0] (dt r) := by
 unfold m_laws_FnUsersOf at h
 refine fnx (fn := Tryz.f8) 1 Tryz.func8 rfl (of_decide_eq_true rfl) rfl (fun M w0 a0 st0 => ?_)
 refine st0.sq0 (
  sc rfl (oA rfl cB) <| .nil) [0] rfl (fun a1 w1 st1 => ?_)
 refine wp_seq ?_
 refine st1.sq0 (
  sc rfl (oM rfl (tp rfl)) <|
  sc rfl (op_lenL rfl kL42 (tp rfl)) <|
  sc rfl (oCI rfl (tp rfl) cI) <| .nil) [0, 11] rfl (fun a2 w2 st2 => ?_)
 refine st2.cs (c := 11) rfl h (fun c3 h3 => ?_) (fun c4 h4 => ?_)
 ·
  refine st2.sq0 (
   sc rfl (oA rfl cB) <| .nil) [2] rfl (fun a5 w5 st5 => ?_)
  refine wp_ret (thn_ret ?_)
  exact st5.ret rfl rfl h3
 ·
  refine wp_skip (then_normal (wp_seq (wp_region_list ?_)))
  obtain ⟨v6, p6, h7⟩ := bs h4
  refine st2.seg 6 (
   sc rfl (oM rfl (tp rfl)) <|
   sc rfl (op_call (l := [.tmp 13]) rfl kN46 (.cons (tp rfl) .nil) (spec_DrawUsersOf_w p6)) <|
   sc rfl (oM rfl (tp rfl)) <|
   sc rfl (xExt (i := 0) rfl (tp rfl) rfl) <|
   sc rfl (xExt (i := 1) rfl (tp rfl) rfl) <|
   sc rfl (xExt (i := 2) rfl (tp rfl) rfl) <| .nil) [15, 16, 17] rfl [] rfl trivial (fun a8 w8 st8 => ?_)
  refine st8.alloc 0 rfl rfl kZ30 zrTree (by simp) [15, 16, 17] rfl [] rfl rfl (fun b10 M10 a10 w10 st10 => ?_)
  refine st10.store (sb := 3) 0 FldS.id rfl rfl rfl kT30 rfl rfl (tp rfl) rfl [16, 17] rfl [] rfl rfl (fun M12 w12 st12 => ?_)
  refine st12.seg 2 (
   sc rfl (oA rfl (tp rfl)) <|
   sc rfl (oA rfl (tp rfl)) <| .nil) [4, 5] rfl [(3, 0)] rfl ⟨iI, trivial⟩ (fun a13 w13 st13 => ?_)
  refine wpList_nil (then_normal ?_)
  obtain ⟨v14, p14, h15⟩ := bs h7
  refine st13.sq (
   sc rfl (op_loadBox rfl kT30 (tp rfl)) <|
   sc rfl (oM rfl (tp rfl)) <|
   sc rfl (oM rfl (tp rfl)) <|
   sc rfl (op_call (l := [.tmp 18, .tmp 19, .tmp 20]) rfl kN47 (.cons (tp rfl) (.cons (tp rfl) (.cons (tp rfl) .nil))) ((impl_UsersOf_w p14)).fn) <|
   sc rfl (oA rfl (tp rfl)) <| .nil) [4, 5, 6] rfl [(3, 0)] rfl ⟨iI, trivial⟩ (fun a16 w16 st16 => ?_)
  refine wp_seq ?_
  obtain ⟨v17, p17, h22⟩ := bs h15
  obtain ⟨v18, p18, h23⟩ := bs h22
  obtain ⟨v19, p19, h24⟩ := bs h23
  obtain ⟨v20, p20, h25⟩ := bs h24
  obtain ⟨v21, p21, h26⟩ := bs h25
  refine st16.sq (
   sc rfl (oM rfl (tp rfl)) <|
   sc rfl (op_loadBox rfl kT30 (tp rfl)) <|
   sc rfl (oM rfl (tp rfl)) <|
   sc rfl (oM rfl (tp rfl)) <|
   sc rfl (op_call (l := [.tmp 23, .tmp 24, .tmp 25]) rfl kN48 (.cons (tp rfl) (.cons (tp rfl) (.cons (tp rfl) .nil))) ((spec_UsersOf_w p17)).fn) <|
   sc rfl (op_call (l := [.tmp 22, .tmp 26]) rfl kN29 (.cons (tp rfl) (.cons (tp rfl) .nil)) (laws_equalTexts_w p18)) <|
   sc rfl (op_not rfl (tp rfl)) <|
   sc rfl (oM rfl (tp rfl)) <|
   sg rfl rfl (fun hg => op_loadBox rfl kT30 (tp rfl)) <|
   sg rfl rfl (fun hg => op_call (l := [.tmp 30]) rfl kN39 (.cons (opd_g hg rfl) .nil) (impl_ValidTree_w (gh hg p19))) <|
   sg rfl rfl (fun hg => op_not rfl (opd_g hg rfl)) <|
   sc rfl (op_or rfl (tp rfl) (opd_tmp rfl)) <|
   sc rfl (oM rfl (tp rfl)) <|
   sg rfl rfl (fun hg => oM rfl (tp rfl)) <|
   sg rfl rfl (fun hg => op_call (l := [.tmp 35]) rfl kN40 (.cons (opd_g hg rfl) .nil) (impl_ValidPath_w (gh hg p20))) <|
   sg rfl rfl (fun hg => op_not rfl (opd_g hg rfl)) <|
   sc rfl (op_or rfl (tp rfl) (opd_tmp rfl)) <|
   sc rfl (oM rfl (tp rfl)) <|
   sg rfl rfl (fun hg => oM rfl (tp rfl)) <|
   sg rfl rfl (fun hg => op_call (l := [.tmp 40]) rfl kN41 (.cons (opd_g hg rfl) .nil) (impl_ValidName_w (gh hg p21))) <|
   sg rfl rfl (fun hg => op_not rfl (opd_g hg rfl)) <|
   sc rfl (op_or rfl (tp rfl) (opd_tmp rfl)) <| .nil) [4, 5, 6, 43] rfl [(3, 0)] rfl ⟨iI, trivial⟩ (fun a27 w27 st27 => ?_)
  refine st27.cs (c := 43) rfl h26 (fun c28 h28 => ?_) (fun c29 h29 => ?_)
  ·
   obtain ⟨v30, p30, h32⟩ := bs h28
   obtain ⟨v31, p31, h33⟩ := bs h32
   refine st27.sq0 (
    sc rfl (oM rfl (tp rfl)) <|
    sc rfl (op_loadBox rfl kT30 (tp rfl)) <|
    sc rfl (oM rfl (tp rfl)) <|
    sc rfl (oM rfl (tp rfl)) <|
    sc rfl (op_call (l := [.tmp 45, .tmp 46, .tmp 47]) rfl kN48 (.cons (tp rfl) (.cons (tp rfl) (.cons (tp rfl) .nil))) ((spec_UsersOf_w p30)).fn) <|
    sc rfl (op_call (l := [.tmp 44, .tmp 48]) rfl kN29 (.cons (tp rfl) (.cons (tp rfl) .nil)) (laws_equalTexts_w p31)) <|
    sc rfl (oA rfl (tp rfl)) <| .nil) [2] rfl (fun a34 w34 st34 => ?_)
   refine wp_ret (thn_ret ?_)
   exact st34.ret rfl rfl h33
  ·
   refine wp_skip (then_normal ?_)
   obtain ⟨v35, p35, h36⟩ := bs h29
   refine st27.sq (
    sc rfl (op_loadBox rfl kT30 (tp rfl)) <|
    sc rfl (oM rfl (tp rfl)) <|
    sc rfl (op_call (l := [.tmp 50, .tmp 51]) rfl kN49 (.cons (tp rfl) (.cons (tp rfl) .nil)) ((impl_FoundNames_w p35)).fn) <|
    sc rfl (oA rfl (tp rfl)) <| .nil) [4, 5, 6, 7] rfl [(3, 0)] rfl ⟨iI, trivial⟩ (fun a37 w37 st37 => ?_)
   obtain ⟨o38, p38, k38⟩ := bs h36
   refine wp_seq_join (fun a w => ∃ b38, o38 = .inl b38 /\ (∃ M1 q38_0, Sx (Frm.of w0) 82 M M1 [oneB q38_0] [(6, dt v14), (7, dt v35)] [] a w)) ?_ ?_
   ·
    refine st37.sq (
     sc rfl (oA rfl cI) <| .nil) [4, 5, 6, 7, 8] rfl [(3, 0)] rfl ⟨iI, trivial⟩ (fun a39 w39 st39 => ?_)
    refine wp_block ?_
    refine loop_model p38 (fun s40 a w => ∃ M1 q40_0, Sx (Frm.of w0) 82 M M1 [oneB q40_0] [(4, dt v6.2.1), (5, dt v6.2.2), (6, dt v14), (7, dt v35), (8, dt s40)] [(3, 0, dbox q40_0 0 v6.1)] a w) ⟨_, _, st39.sel [4, 5, 6, 7, 8] rfl [(3, 0)] rfl ⟨iI, trivial⟩⟩ ?_
    rintro s40 x40 a40 w40 ⟨M40, q40_0, st40⟩ hs40 hx40
    have h41 : m_laws_FnUsersOf_s0 v6 v14 v35 s40 = some x40 := hs40
    unfold m_laws_FnUsersOf_s0 at h41
    refine wp_seq ?_
    refine st40.sq (
      sc rfl (oM rfl (tp rfl)) <|
      sc rfl (oM rfl (tp rfl)) <|
      sc rfl (op_lenL rfl kL36 (tp rfl)) <|
      sc rfl (oCI rfl (tp rfl) (tp rfl)) <| .nil) [4, 5, 6, 7, 8, 56] rfl [(3, 0)] rfl ⟨iI, trivial⟩ (fun a42 w42 st42 => ?_)
    refine st42.cs (c := 56) rfl h41 (fun c43 h43 => ?_) (fun c44 h44 => ?_)
    ·
     refine wp_skip (then_normal (wp_seq (wp_block (wp_seq ?_))))
     obtain ⟨v45, p45, h50⟩ := bs h43
     obtain ⟨v46, p46, h51⟩ := bs h50
     obtain ⟨v47, p47, h52⟩ := bs h51
     obtain ⟨v48, p48, h53⟩ := bs h52
     obtain ⟨v49, p49, h54⟩ := bs h53
     refine st42.dr (D := [_, _, _, _, _, _, _, _, _, _, _, _, _, _, _, _]) Tryz_mixed [[], [], [], [1, 2], [1, 2, 3], [0, 1, 2, 3, 4], [], [], [], [], [8, 9], [8, 9, 10], [0, 1, 2, 3, 4, 5, 6, 7, 8, 9, 10, 11], [], [0, 1, 2, 3, 4, 5, 6, 7, 8, 9, 10, 11, 12, 13], [0, 1, 2, 3, 4, 5, 6, 7, 8, 9, 10, 11, 12, 13, 14]] [[(6, none)], [(7, none)], [(8, none)], [(60, some 1), (61, some 2)], [(62, some 3)], [(59, some 0), (63, some 4)], [(3, none)], [(4, none)], [(7, none)], [(8, none)], [(67, some 8), (68, some 9)], [(69, some 10)], [(65, some 6), (66, some 7), (70, some 11)], [(5, none)], [(71, some 12), (72, some 13)], [(64, some 5), (73, some 14)]] (by decide +kernel) (
      rc rfl rfl (oM rfl (tp rfl)) <|
       rc rfl rfl (oM rfl (tp rfl)) <|
       rc rfl rfl (oM rfl (tp rfl)) <|
       rc rfl rfl (xIdx rfl kS36 (tp rfl) (tp rfl) p45) <|
       rc rfl rfl (op_load rfl kT9 (tp rfl)) <|
       rc rfl rfl (op_call (l := [.tmp 59, .tmp 63]) rfl kN42 (.cons (tp rfl) (.cons (tp rfl) .nil)) (laws_hasText_w p46)) <|
       rc rfl rfl (op_loadBox rfl kT30 (tp rfl)) <|
       rc rfl rfl (oM rfl (tp rfl)) <|
       rc rfl rfl (oM rfl (tp rfl)) <|
       rc rfl rfl (oM rfl (tp rfl)) <|
       rc rfl rfl (xIdx rfl kS36 (tp rfl) (tp rfl) p47) <|
       rc rfl rfl (op_load rfl kT9 (tp rfl)) <|
       rc rfl rfl (op_call (l := [.tmp 65, .tmp 66, .tmp 70]) rfl kN33 (.cons (tp rfl) (.cons (tp rfl) (.cons (tp rfl) .nil))) (impl_EdgesOf_w p48)) <|
       rc rfl rfl (oM rfl (tp rfl)) <|
       rc rfl rfl (op_call (l := [.tmp 71, .tmp 72]) rfl kN42 (.cons (tp rfl) (.cons (tp rfl) .nil)) (laws_hasText_w p49)) <|
       rc rfl rfl (op_neT rfl kV4 (tp rfl) (tp rfl)) <| .nil) [4, 5, 6, 7, 8, 74] rfl [(3, 0)] rfl ⟨iI, trivial⟩ (fun a55 w55 st55 => ?_)
     refine then_normal ?_
     refine st55.cs (c := 74) rfl h54 (fun c56 h56 => ?_) (fun c57 h57 => ?_)
     ·
      refine st55.sq0 (
        sc rfl (oA rfl cB) <| .nil) [2] rfl (fun a58 w58 st58 => ?_)
      refine wp_ret (blk_ret (thn_ret (thn_ret (blk_ret (thn_ret ?_)))))
      have h59 := lo h56 hx40
      have h60 := jo h59 k38
      exact st58.ret rfl rfl h60
     ·
      refine wp_skip (blk_normal (then_normal ?_))
      obtain ⟨v61, p61, h62⟩ := bs h57
      refine st55.rg (
        sc rfl (oM rfl (tp rfl)) <|
        sc rfl (xAr rfl (tp rfl) cI p61) <|
        sc rfl (oA rfl (tp rfl)) <| .nil) [4, 5, 6, 7, 8] rfl [(3, 0)] rfl ⟨iI, trivial⟩ (fun a63 w63 st63 => ?_)
      refine then_normal ?_
      exact ⟨_, (Option.some.inj h62).symm, ⟨_, _, st63.sel [4, 5, 6, 7, 8] rfl [(3, 0)] rfl ⟨iI, trivial⟩⟩⟩
    ·
     refine wp_exit (thn_exit (thn_exit (exit_here ?_)))
     refine then_normal ?_
     have h64 := lo h44 hx40
     exact ⟨_, (Option.some.inj h64).symm, ⟨_, _, st42.sel [6, 7] rfl [] rfl trivial⟩⟩
   ·
    rintro a38 w38 ⟨b38, rfl, ⟨M38, q38_0, st38⟩⟩
    have h65 := jn k38
    obtain ⟨v66, p66, h68⟩ := bs h65
    obtain ⟨v67, p67, h69⟩ := bs h68
    refine st38.sq0 (
     sc rfl (oM rfl (tp rfl)) <|
     sc rfl (op_call (l := [.tmp 75]) rfl kN35 (.cons (tp rfl) .nil) (laws_rises_w p66)) <|
     sc rfl (oM rfl (tp rfl)) <|
     sg rfl rfl (fun hg => oM rfl (tp rfl)) <|
     sg rfl rfl (fun hg => oM rfl (tp rfl)) <|
     sg rfl rfl (fun hg => op_call (l := [.tmp 78, .tmp 79]) rfl kN32 (.cons (opd_g hg rfl) (.cons (opd_g hg rfl) .nil)) (laws_withinTexts_w (gh hg p67))) <|
     sc rfl (op_and rfl (tp rfl) (opd_tmp rfl)) <|
     sc rfl (oA rfl (tp rfl)) <| .nil) [2] rfl (fun a70 w70 st70 => ?_)
    refine wp_ret ?_
    exact st70.ret rfl rfl h69
end Go.Proofs.YtbnibckkfknpkaaGreatDoor
