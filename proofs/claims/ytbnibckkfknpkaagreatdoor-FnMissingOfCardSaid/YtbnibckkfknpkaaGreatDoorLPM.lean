/-
  Models of functions, and their walks: printed by a program of our own (wip/mxo.py).
  Models of functions, and their walks: printed by a program of our own (wip/mxo.py).
-/
import Derived.Test.YtbnibckkfknpkaaGreatDoorLNM
import Derived.Test.YtbnibckkfknpkaaGreatDoorLGM
import Derived.Test.YtbnibckkfknpkaaGreatDoorLHM
namespace Go.Proofs.YtbnibckkfknpkaaGreatDoor
open Go.RowKit
set_option maxRecDepth 10000
set_option maxHeartbeats 1600000
theorem kN73 : fnB Tryz.prog 73 = true := by kernel_rfl
theorem kI59 : sliB Tryz.prog 59 64 5 = true := by kernel_rfl
def m_spec_plainOf_s1 (s35 : Reader × Tree × Int) (s58 : Reader × (List Stmt) × Int) : Option ((Reader × (List Stmt) × Int) ⊕ (Reader × (List Stmt))) :=
if (cmpI .gtr s58.2.2 (0 : Int) && cmpI .gtr s35.2.2 (0 : Int)) = true then (Option.bind (α := Reader × (List Stmt)) ((m_spec_reader_pick s58.1 s35.2.2).bind fun v73 =>
(atI s35.2.1.files v73.2).bind fun v76 =>
(m_spec_moduleName v76).bind fun v79 =>
(m_spec_validName v79).bind fun v94 =>
(gO ((!v94) == false) (m_spec_parent v79)).bind fun v95 =>
(gO (((!v94) == false) && (decide (v95 ≠ (⟨[]⟩ : Str)) == true)) (m_spec_reader_pick v73.1 (2 : Int))).bind fun v100 =>
if ((!v94) || (decide (v95 ≠ (⟨[]⟩ : Str)) && cmpI .eql v100.2 (0 : Int))) = true then (some ((if (((!v94) == false) && (decide (v95 ≠ (⟨[]⟩ : Str)) == true)) = true then v100.1 else v73.1), s58.2.1))
else ((m_spec_reader_one (if (((!v94) == false) && (decide (v95 ≠ (⟨[]⟩ : Str)) == true)) = true then v100.1 else v73.1) ([(0 : Int), (0 : Int), (2 : Int)] : List Int)).bind fun v110 =>
(appO 56 s58.2.1 ([(⟨v110.2, v79, 0, ⟨[]⟩, 0⟩ : Stmt)] : List Stmt)).bind fun v118 =>
some (v110.1, v118))) fun o63 =>
(i64 (s58.2.2 - (1 : Int))).bind fun v125 =>
some (.inl (o63.1, o63.2, v125)))
else (some (.inr (s58.1, s58.2.1)))
def m_spec_plainOf_s0 (s35 : Reader × Tree × Int) : Option ((Reader × Tree × Int) ⊕ (Reader × Tree)) :=
if (cmpI .lss s35.2.2 (s35.2.1.files.length : Int)) = true then (Option.bind (α := Reader × Tree) (Option.bind (α := Reader × (List Stmt)) ((m_spec_reader_pick s35.1 (3 : Int)).bind fun v52 =>
loopM (fun s58 => m_spec_plainOf_s1 s35 s58) (v52.1, [(⟨(3 : Int), ⟨[]⟩, 0, (⟨[120]⟩ : Str), s35.2.2⟩ : Stmt)], v52.2)) fun o49 =>
(atI s35.2.1.files s35.2.2).bind fun v133 =>
some (o49.1, (⟨(s35.2.1.files.set s35.2.2.toNat ({ v133 with body := o49.2 }))⟩ : Tree))) fun o43 =>
(i64 (s35.2.2 + (1 : Int))).bind fun v139 =>
some (.inl (o43.1, o43.2, v139)))
else (some (.inr (s35.1, s35.2.1)))
def m_spec_plainOf (x0 : Reader) : Option (Reader × Tree × (List Int) × Str) :=
(m_spec_nameOf x0).bind fun v6 =>
(m_spec_reader_pick v6.1 (3 : Int)).bind fun v19 =>
if (cmpI .eql v19.2 (0 : Int)) = true then (some (v19.1, v6.2.1, v6.2.2.1, v6.2.2.2))
else (Option.bind (α := Reader × Tree) (loopM (fun s35 => m_spec_plainOf_s0 s35) (v19.1, v6.2.1, (0 : Int))) fun o31 =>
some (o31.1, o31.2, v6.2.2.1, v6.2.2.2))
theorem spec_plainOf_w {x0 : Reader} {r : Reader × Tree × (List Int) × Str} (h : m_spec_plainOf x0 = some r) : FnS Tryz.prog 81 (Ow.box (Ow.frz (α := Reader))) ⟨x0⟩ [] ⟨r.1⟩ (.t3 (owTree (Ow.row 61 (Ow.frz (α := File)))) r.2.1 (dt r.2.2.1) (dt r.2.2.2)) := by
 unfold m_spec_plainOf at h
 refine fnSB (fn := Tryz.f81) 4 9 Tryz.func81 rfl (of_decide_eq_true rfl) rfl (fun M G w0 b0 a0 st0 => ?_)
 refine wp_seq (wp_region_list ?_)
 refine st0.alcW (ow := (owTree (Ow.row 61 (Ow.frz (α := File))))) 7 rfl rfl kZ30 (owTree.z Ow.row_z) (by simp) [] rfl [0] rfl rfl (fun b1 M1 a1 w1 st1 => ?_)
 have st2 := st1.gs (Gs' := [oneB none, oneB none, oneB none, oneB none, G, oneB none, oneB none, (oneB (some b1)), oneB none]) rfl
 refine st2.seg 2 (
  sc rfl (oA rfl (opd_nil (α := Int))) <|
  sc rfl (oA rfl (opd_str (by decide))) <| .nil) [] rfl [(0, 4), (2, 7)] rfl ⟨iI, ⟨iI, trivial⟩⟩ (fun a3 w3 st3 => ?_)
 refine wpList_nil (then_normal (wp_seq (wp_region_list ?_)))
 refine st3.seg 1 (
  sc rfl (oM rfl (tp rfl)) <| .nil) [] rfl [(0, 4), (2, 7), (13, 4)] rfl ⟨iI, ⟨iI, ⟨iI, trivial⟩⟩⟩ (fun a4 w4 st4 => ?_)
 obtain ⟨v6, p6, h7⟩ := bs h
 refine st4.cSO (l := []) 4 0 (st4.bkN (s := 0) rfl iI) rfl rfl kN73 ((st4.st.has 13 _ rfl).1.trans (st4.st.has 0 _ rfl).1.symm) (by simp) (by simp) (by decide) .nil (spec_nameOf_w p6) [] rfl [2] rfl rfl rfl rfl (by decide) (fun G5 H5 M5 a5 w5 st5 => ?_)
 have st8 := st5.gs (Gs' := [H5, oneB none, oneB none, oneB none, G5, oneB none, oneB none, (oneB (some b1)), oneB none]) rfl
 refine st8.mvD (s := 14) 0 rfl rfl rfl rfl iI rfl [0, 2] rfl (fun a9 st9 => ?_)
 refine st9.ex3 (s := 12) 0 rfl rfl rfl rfl iI rfl [0, 2] rfl (fun a10 st10 => ?_)
 refine st10.seg 2 (
  sc rfl (xEx1 rfl (tp rfl)) <|
  sc rfl (xEx2 rfl (tp rfl)) <| .nil) [16, 17] rfl [(0, 4), (2, 7), (15, 0)] rfl ⟨iI, ⟨iI, ⟨iI, trivial⟩⟩⟩ (fun a11 w11 st11 => ?_)
 refine st11.alcW (ow := (owTree (Ow.row 61 (Ow.frz (α := File))))) 8 rfl rfl kZ30 (owTree.z Ow.row_z) (by simp) [16, 17] rfl [0, 2, 15] rfl rfl (fun b12 M12 a12 w12 st12 => ?_)
 have st13 := st12.gs (Gs' := [H5, oneB none, oneB none, oneB none, G5, oneB none, oneB none, (oneB (some b1)), (oneB (some b12))]) rfl
 refine st13.stO (sb := 5) (tv := 15) 8 0 (PV.root.box rfl) rfl rfl rfl kT30 (by simp) (by simp) (by decide) (opd_nm rfl) rfl rfl rfl iI iI [16, 17] rfl [0, 2] rfl rfl rfl (fun G14 w14 st14 => ?_)
 have st15 := st14.gs (Gs' := [oneB none, oneB none, oneB none, oneB none, G5, oneB none, oneB none, (oneB (some b1)), G14]) rfl
 refine st15.seg 2 (
  sc rfl (oA rfl (tp rfl)) <|
  sc rfl (oA rfl (tp rfl)) <| .nil) [6, 7] rfl [(0, 4), (2, 7), (5, 8)] rfl ⟨iI, ⟨iI, ⟨iI, trivial⟩⟩⟩ (fun a16 w16 st16 => ?_)
 refine wpList_nil (then_normal (wp_seq (wp_seq (wp_region_list ?_))))
 refine st16.seg 1 (
  sc rfl (oM rfl (tp rfl)) <| .nil) [6, 7] rfl [(0, 4), (2, 7), (5, 8), (18, 4)] rfl ⟨iI, ⟨iI, ⟨iI, ⟨iI, trivial⟩⟩⟩⟩ (fun a17 w17 st17 => ?_)
 obtain ⟨v19, p19, h20⟩ := bs h7
 refine st17.cSF (l := [.const (.int .i64 3)]) 4 (st17.bkN (s := 0) rfl iI) rfl rfl kN117 ((st17.st.has 18 _ rfl).1.trans (st17.st.has 0 _ rfl).1.symm) (by simp) (.cons cI .nil) (spec_reader_pick_w p19) [6, 7] rfl [2, 5] rfl rfl (by decide) (fun G18 M18 a18 w18 st18 => ?_)
 have st21 := st18.gs (Gs' := [oneB none, oneB none, oneB none, oneB none, G18, oneB none, oneB none, (oneB (some b1)), G14]) rfl
 refine st21.seg 1 (
  sc rfl (oCI rfl (tp rfl) cI) <| .nil) [6, 7, 20] rfl [(0, 4), (2, 7), (5, 8)] rfl ⟨iI, ⟨iI, ⟨iI, trivial⟩⟩⟩ (fun a22 w22 st22 => ?_)
 refine wpList_nil (then_normal ?_)
 refine st22.cs (c := 20) rfl h20 (fun c23 h23 => ?_) (fun c24 h24 => ?_)
 ·
  refine wp_seq (wp_region_list ?_)
  refine st22.ldW (sb := 5) 8 rfl rfl kT30 rfl (by simp) iI [6, 7] rfl [0, 2] rfl rfl (fun a25 w25 st25 => ?_)
  refine st25.seg 2 (
   sc rfl (oM rfl (tp rfl)) <|
   sc rfl (oM rfl (tp rfl)) <| .nil) [22, 23] rfl [(0, 4), (2, 7), (21, 8)] rfl ⟨iI, ⟨iI, ⟨iI, trivial⟩⟩⟩ (fun a26 w26 st26 => ?_)
  refine st26.stO (sb := 2) (tv := 21) 7 8 (PV.root.box rfl) rfl rfl rfl kT30 (by simp) (by simp) (by decide) (opd_nm rfl) rfl rfl rfl iI iI [22, 23] rfl [0] rfl rfl rfl (fun G27 w27 st27 => ?_)
  have st28 := st27.gs (Gs' := [oneB none, oneB none, oneB none, oneB none, G18, oneB none, oneB none, G27, oneB none]) rfl
  refine st28.seg 2 (
   sc rfl (oA rfl (tp rfl)) <|
   sc rfl (oA rfl (tp rfl)) <| .nil) [3, 4] rfl [(0, 4), (2, 7)] rfl ⟨iI, ⟨iI, trivial⟩⟩ (fun a29 w29 st29 => ?_)
  refine wpList_nil (then_normal ?_)
  refine wp_ret (thn_ret ?_)
  obtain rfl := Option.some.inj h23
  exact st29.rs3O (s := 0) 4 7 rfl kT30 rfl rfl rfl rfl ⟨rfl, rfl⟩ iI iI (by decide) ⟨rfl, rfl⟩
 ·
  refine wp_skip (then_normal ?_)
  obtain ⟨o31, p31, k31⟩ := bs h24
  refine wp_seq_join (fun a w => ∃ M1 q31_0 q31_1 q31_2 q31_3 q31_4 q31_5 q31_6 q31_7 q31_8, Sx (Frm.chg w0 G) 82 M M1 [q31_0, q31_1, q31_2, q31_3, q31_4, q31_5, q31_6, q31_7, q31_8] [(6, dt v6.2.2.1), (7, dt v6.2.2.2)] [(0, 4, dnm (Ow.box (Ow.frz (α := Reader))) q31_4 ⟨o31.1⟩ (.pointer (some ⟨b0, 0, none⟩)) []), (2, 7, dow (Ow.box (owTree (Ow.row 61 (Ow.frz (α := File))))) q31_7 ⟨zTree⟩), (5, 8, dow (Ow.box (owTree (Ow.row 61 (Ow.frz (α := File))))) q31_8 ⟨o31.2⟩)] a w) ?_ ?_
  ·
   refine st22.sq (
    sc rfl (oA rfl cI) <| .nil) [6, 7, 8] rfl [(0, 4), (2, 7), (5, 8)] rfl ⟨iI, ⟨iI, ⟨iI, trivial⟩⟩⟩ (fun a32 w32 st32 => ?_)
   refine wp_block ?_
   have st33 := st32.unm (s := 2) 7 rfl rfl iI [0, 5] rfl
   have st34 := st33.unm (s := 5) 8 rfl rfl iI [0, 2] rfl
   refine loop_model p31 (fun s35 a w => ∃ M1 q35_0 q35_1 q35_2 q35_3 q35_4 q35_5 q35_6 q35_7 q35_8, Sx (Frm.chg w0 G) 82 M M1 [q35_0, q35_1, q35_2, q35_3, q35_4, q35_5, q35_6, q35_7, q35_8] [(6, dt v6.2.2.1), (7, dt v6.2.2.2), (8, dt s35.2.2)] [(0, 4, dnm (Ow.box (Ow.frz (α := Reader))) q35_4 ⟨s35.1⟩ (.pointer (some ⟨b0, 0, none⟩)) []), (2, 7, dow (Ow.box (owTree (Ow.row 61 (Ow.frz (α := File))))) q35_7 ⟨zTree⟩), (5, 8, dow (Ow.box (owTree (Ow.row 61 (Ow.frz (α := File))))) q35_8 ⟨s35.2.1⟩)] a w) ⟨_, _, _, _, _, _, _, _, _, _, st34.sel [6, 7, 8] rfl [(0, 4), (2, 7), (5, 8)] rfl ⟨iI, ⟨iI, ⟨iI, trivial⟩⟩⟩⟩ ?_
   rintro s35 x35 a35 w35 ⟨M35, q35_0, q35_1, q35_2, q35_3, q35_4, q35_5, q35_6, q35_7, q35_8, st35⟩ hs35 hx35
   have h36 : m_spec_plainOf_s0 s35 = some x35 := hs35
   unfold m_spec_plainOf_s0 at h36
   refine wp_seq ?_
   refine st35.nmB (s := 5) 8 rfl rfl iI [0, 2] rfl (fun b37 st37 => ?_)
   refine st37.hdR (s := 5) 8 true (fun _ => ((PV.root.box rfl).fld owTree.f0)) rfl rfl iI [0, 2] rfl (fun g38 A38 c38 hA38 st38 => ?_)
   refine st38.sq (
     sc rfl (oM rfl (tp rfl)) <|
     sc rfl (xFa rfl kF30_0 (opd_nm rfl)) <|
     sc rfl (xLc (sb := 5) (.head _) rfl rfl rfl kT28 (tp rfl) rfl) <|
     sc rfl (xLe rfl kL28 (tp rfl)) <|
     sc rfl (oCI rfl (tp rfl) (tp rfl)) <| .nil) [6, 7, 8, 28] rfl [(0, 4), (2, 7), (5, 8)] rfl ⟨iI, ⟨iI, ⟨iI, trivial⟩⟩⟩ (fun a39 w39 st39 => ?_)
   have st40 := st39.ncf (s := 5) 8 rfl rfl iI [0, 2] rfl
   refine st40.cs (c := 28) rfl h36 (fun c41 h41 => ?_) (fun c42 h42 => ?_)
   ·
    refine wp_skip (then_normal ?_)
    obtain ⟨o43, p43, k43⟩ := bs h41
    refine wp_seq_join (fun a w => ∃ M1 q43_0 q43_1 q43_2 q43_3 q43_4 q43_5 q43_6 q43_7 q43_8, Sx (Frm.chg w0 G) 82 M M1 [q43_0, q43_1, q43_2, q43_3, q43_4, q43_5, q43_6, q43_7, q43_8] [(6, dt v6.2.2.1), (7, dt v6.2.2.2), (8, dt s35.2.2)] [(0, 4, dnm (Ow.box (Ow.frz (α := Reader))) q43_4 ⟨o43.1⟩ (.pointer (some ⟨b0, 0, none⟩)) []), (2, 7, dow (Ow.box (owTree (Ow.row 61 (Ow.frz (α := File))))) q43_7 ⟨zTree⟩), (5, 8, dow (Ow.box (owTree (Ow.row 61 (Ow.frz (α := File))))) q43_8 ⟨o43.2⟩)] a w) ?_ ?_
    ·
     refine wp_block (wp_seq (wp_region_list ?_))
     refine st40.seg 2 (
       sc rfl (oM rfl (tp rfl)) <|
       sc rfl (op_build (parts := [(0, .const (.int .i64 3)), (3, _), (4, .tmp 31)]) (ns := [1, 1, 1, 1, 1]) (zs := zpStmt) rfl rfl kB64 kC64 (fun w a hl => by
 intro p hp; simp only [List.mem_cons, List.not_mem_nil, or_false] at hp
 rcases hp with rfl | rfl | rfl
 ·
  exact ⟨by decide, rfl⟩
 ·
  exact ⟨by decide, rfl⟩
 ·
  exact ⟨by decide, Rep.len (α := Int) (OpdR.cells (tp rfl) hl)⟩) (fun w a hl => Stmt.parts (x := (⟨(3 : Int), ⟨[]⟩, 0, (⟨[120]⟩ : Str), s35.2.2⟩ : Stmt)) (OpdR.cells cI hl) zero_str ⟨rfl, trivial⟩ (OpdR.cells (opd_str (by decide)) hl) (OpdR.cells (tp rfl) hl))) <| .nil) [6, 7, 8, 32] rfl [(0, 4), (2, 7), (5, 8)] rfl ⟨iI, ⟨iI, ⟨iI, trivial⟩⟩⟩ (fun a44 w44 st44 => ?_)
     refine st44.litW (oe := (Ow.frz (α := Stmt))) (opds := [.tmp 32]) (xs := [(⟨(3 : Int), ⟨[]⟩, 0, (⟨[120]⟩ : Str), s35.2.2⟩ : Stmt)]) 5 [] rfl rfl kI59 kY59 rfl rfl (by decide) rfl (by decide) (rowW_lit (oe := (Ow.frz (α := Stmt))) (G1 := noB) (rdc_cells (st44.st.has 32 _ rfl)) (fun _ h => h.elim)) (fun q hq => by
 simp only [List.mem_cons, List.not_mem_nil, or_false] at hq
 subst hq
 exact Rep.len (rdc_cells (st44.st.has 32 _ rfl))) (by simp) [6, 7, 8] rfl [0, 2, 5] rfl rfl rfl (by decide) (fun G45 M45 a45 w45 st45 => ?_)
     have st46 := st45.gs (Gs' := [q35_0, q35_1, q35_2, q35_3, q35_4, G45, q35_6, q35_7, q35_8]) rfl
     refine st46.nmR (s := 33) 5 rfl rfl iI [0, 2, 5] rfl (fun g47 A47 c47 hA47 st47 => ?_)
     refine st47.seg 1 (
       sc rfl (oA rfl (tp rfl)) <| .nil) [6, 7, 8] rfl [(0, 4), (2, 7), (5, 8), (9, 5)] rfl ⟨iI, ⟨iI, ⟨iI, ⟨iI, trivial⟩⟩⟩⟩ (fun a48 w48 st48 => ?_)
     refine wpList_nil (then_normal ?_)
     obtain ⟨o49, p49, k49⟩ := bs p43
     refine wp_seq_join (fun a w => ∃ M1 q49_0 q49_1 q49_2 q49_3 q49_4 q49_5 q49_6 q49_7 q49_8, Sx (Frm.chg w0 G) 82 M M1 [q49_0, q49_1, q49_2, q49_3, q49_4, q49_5, q49_6, q49_7, q49_8] [(6, dt v6.2.2.1), (7, dt v6.2.2.2), (8, dt s35.2.2)] [(0, 4, dnm (Ow.box (Ow.frz (α := Reader))) q49_4 ⟨o49.1⟩ (.pointer (some ⟨b0, 0, none⟩)) []), (2, 7, dow (Ow.box (owTree (Ow.row 61 (Ow.frz (α := File))))) q49_7 ⟨zTree⟩), (5, 8, dow (Ow.box (owTree (Ow.row 61 (Ow.frz (α := File))))) q49_8 ⟨s35.2.1⟩), (9, 5, dow (Ow.row 64 (Ow.frz (α := Stmt))) q49_5 o49.2)] a w) ?_ ?_
     ·
      refine wp_seq (wp_region_list ?_)
      refine st48.seg 1 (
        sc rfl (oM rfl (tp rfl)) <| .nil) [6, 7, 8] rfl [(0, 4), (2, 7), (5, 8), (9, 5), (34, 4)] rfl ⟨iI, ⟨iI, ⟨iI, ⟨iI, ⟨iI, trivial⟩⟩⟩⟩⟩ (fun a50 w50 st50 => ?_)
      obtain ⟨v52, p52, h53⟩ := bs p49
      refine st50.cSF (l := [.const (.int .i64 3)]) 4 (st50.bkN (s := 0) rfl iI) rfl rfl kN117 ((st50.st.has 34 _ rfl).1.trans (st50.st.has 0 _ rfl).1.symm) (by simp) (.cons cI .nil) (spec_reader_pick_w p52) [6, 7, 8] rfl [2, 5, 9] rfl rfl (by decide) (fun G51 M51 a51 w51 st51 => ?_)
      have st54 := st51.gs (Gs' := [q35_0, q35_1, q35_2, q35_3, G51, G45, q35_6, q35_7, q35_8]) rfl
      refine st54.seg 1 (
        sc rfl (oA rfl (tp rfl)) <| .nil) [6, 7, 8, 10] rfl [(0, 4), (2, 7), (5, 8), (9, 5)] rfl ⟨iI, ⟨iI, ⟨iI, ⟨iI, trivial⟩⟩⟩⟩ (fun a55 w55 st55 => ?_)
      refine wpList_nil (then_normal (wp_block ?_))
      have st56 := st55.unm (s := 5) 8 rfl rfl iI [0, 2, 9] rfl
      have st57 := st56.unm (s := 9) 5 rfl rfl iI [0, 2, 5] rfl
      refine loop_model h53 (fun s58 a w => ∃ M1 q58_0 q58_1 q58_2 q58_3 q58_4 q58_5 q58_6 q58_7 q58_8, Sx (Frm.chg w0 G) 82 M M1 [q58_0, q58_1, q58_2, q58_3, q58_4, q58_5, q58_6, q58_7, q58_8] [(6, dt v6.2.2.1), (7, dt v6.2.2.2), (8, dt s35.2.2), (10, dt s58.2.2)] [(0, 4, dnm (Ow.box (Ow.frz (α := Reader))) q58_4 ⟨s58.1⟩ (.pointer (some ⟨b0, 0, none⟩)) []), (2, 7, dow (Ow.box (owTree (Ow.row 61 (Ow.frz (α := File))))) q58_7 ⟨zTree⟩), (5, 8, dow (Ow.box (owTree (Ow.row 61 (Ow.frz (α := File))))) q58_8 ⟨s35.2.1⟩), (9, 5, dow (Ow.row 64 (Ow.frz (α := Stmt))) q58_5 s58.2.1)] a w) ⟨_, _, _, _, _, _, _, _, _, _, st57.sel [6, 7, 8, 10] rfl [(0, 4), (2, 7), (5, 8), (9, 5)] rfl ⟨iI, ⟨iI, ⟨iI, ⟨iI, trivial⟩⟩⟩⟩⟩ ?_
      rintro s58 x58 a58 w58 ⟨M58, q58_0, q58_1, q58_2, q58_3, q58_4, q58_5, q58_6, q58_7, q58_8, st58⟩ hs58 hx58
      have h59 : m_spec_plainOf_s1 s35 s58 = some x58 := hs58
      unfold m_spec_plainOf_s1 at h59
      refine wp_seq ?_
      refine st58.sq (
         sc rfl (oM rfl (tp rfl)) <|
         sc rfl (oCI rfl (tp rfl) cI) <|
         sc rfl (oM rfl (tp rfl)) <|
         sg rfl rfl (fun hg => oM rfl (tp rfl)) <|
         sg rfl rfl (fun hg => oCI rfl (opd_g hg rfl) cI) <|
         sc rfl (op_and rfl (tp rfl) (opd_tmp rfl)) <| .nil) [6, 7, 8, 10, 41] rfl [(0, 4), (2, 7), (5, 8), (9, 5)] rfl ⟨iI, ⟨iI, ⟨iI, ⟨iI, trivial⟩⟩⟩⟩ (fun a60 w60 st60 => ?_)
      refine st60.cs (c := 41) rfl h59 (fun c61 h61 => ?_) (fun c62 h62 => ?_)
      ·
       refine wp_skip (then_normal ?_)
       obtain ⟨o63, p63, k63⟩ := bs h61
       refine wp_seq_join (fun a w => ∃ M1 q63_0 q63_1 q63_2 q63_3 q63_4 q63_5 q63_6 q63_7 q63_8, Sx (Frm.chg w0 G) 82 M M1 [q63_0, q63_1, q63_2, q63_3, q63_4, q63_5, q63_6, q63_7, q63_8] [(6, dt v6.2.2.1), (7, dt v6.2.2.2), (8, dt s35.2.2), (10, dt s58.2.2)] [(0, 4, dnm (Ow.box (Ow.frz (α := Reader))) q63_4 ⟨o63.1⟩ (.pointer (some ⟨b0, 0, none⟩)) []), (2, 7, dow (Ow.box (owTree (Ow.row 61 (Ow.frz (α := File))))) q63_7 ⟨zTree⟩), (5, 8, dow (Ow.box (owTree (Ow.row 61 (Ow.frz (α := File))))) q63_8 ⟨s35.2.1⟩), (9, 5, dow (Ow.row 64 (Ow.frz (α := Stmt))) q63_5 o63.2)] a w) ?_ ?_
       ·
        refine wp_block (wp_seq ?_)
        refine st60.nmB (s := 5) 8 rfl rfl iI [0, 2, 9] rfl (fun b64 st64 => ?_)
        refine st64.hdR (s := 5) 8 true (fun _ => ((PV.root.box rfl).fld owTree.f0)) rfl rfl iI [0, 2, 9] rfl (fun g65 A65 c65 hA65 st65 => ?_)
        refine st65.held (fun w => w.cell? ⟨b64, 0, none⟩ = some (.slice A65 (s35.2.1.files.length) c65)) Tryz_mixed (fun w66 st66 => ?_)
        refine st66.tk (i := 0) rfl rfl (by decide +kernel) (by decide +kernel) (by decide +kernel) (fun _ _ _ h => h) (st66.cellS (sb := 5) rfl (.head _) rfl rfl) (yFa rfl kF30_0 (st66.st.has 5 _ rfl).1) (fun a67 st67 => ?_)
        refine st67.tk (i := 1) rfl rfl (by decide +kernel) (by decide +kernel) (by decide +kernel) (fun _ _ _ h => h) (st67.cellS (sb := 5) rfl (.head _) rfl rfl) (yLd rfl kT28 (st67.st.has 44 _ rfl) (fun _ h => h)) (fun a68 st68 => ?_)
        refine st68.tkM (i := 3) (sb := 8) rfl rfl (by decide +kernel) (by decide +kernel) (by decide +kernel) (fun _ _ _ _ h => h) (st68.cellS (sb := 5) rfl (.head _) rfl rfl) rfl rfl rfl rfl (fun a69 st69 => ?_)
        refine st69.mvN (s := 45) (sb := 5) 8 3 ((PV.root.box rfl).fld owTree.f0) (.head _) rfl (fits_one rfl rfl) rfl rfl (by simp) (by simp) (by decide) rfl iI [6, 7, 8, 10, 41, 44, 47] rfl [0, 2, 9] rfl rfl rfl rfl (by decide) (fun G70 H70 st70 => ?_)
        obtain ⟨v73, p73, h82⟩ := bs p63
        obtain ⟨v76, p76, h83⟩ := bs h82
        obtain ⟨v79, p79, h84⟩ := bs h83
        refine aH1 (i := 2) (by decide +kernel) rfl ?_
        refine st70.seg 1 (sc rfl (oM rfl (tp rfl)) <| .nil) [6, 7, 8, 10, 47] rfl [(0, 4), (2, 7), (5, 8), (9, 5), (45, 3), (46, 4)] rfl ⟨iI, ⟨iI, ⟨iI, ⟨iI, ⟨iI, ⟨iI, trivial⟩⟩⟩⟩⟩⟩ (fun a85 w85 st85 => ?_)
        refine aHN (st85.hkS (sb := 5) rfl) ?_
        refine aH1 (i := 4) (by decide +kernel) rfl ?_
        refine st85.cSF (l := [.tmp 47]) 4 (st85.bkN (s := 0) rfl iI) rfl rfl kN117 ((st85.st.has 46 _ rfl).1.trans (st85.st.has 0 _ rfl).1.symm) (by simp) (.cons (tp rfl) .nil) (spec_reader_pick_w p73) [6, 7, 8, 10] rfl [2, 5, 9, 45] rfl rfl (by decide) (fun G86 M86 a86 w86 st86 => ?_)
        have st87 := st86.gs (Gs' := [q58_0, q58_1, q58_2, H70, G86, q58_5, q58_6, q58_7, G70]) rfl
        refine aHN (st87.hkS (sb := 5) rfl) ?_
        refine aH1 (i := 5) (by decide +kernel) rfl ?_
        refine st87.seg 1 (sc rfl (xIaN rfl kS28 rfl (tp rfl) (fun h => hA65 h rfl) p76) <| .nil) [6, 7, 8, 10, 49] rfl [(0, 4), (2, 7), (5, 8), (9, 5), (45, 3)] rfl ⟨iI, ⟨iI, ⟨iI, ⟨iI, ⟨iI, trivial⟩⟩⟩⟩⟩ (fun a88 w88 st88 => ?_)
        refine aHN (st88.hkS (sb := 5) rfl) ?_
        refine aH1 (i := 6) (by decide +kernel) rfl ?_
        refine st88.seg 1 (sc rfl (xLf (sb := 45) (PV.root.row rfl (fun h => hA65 h rfl) p76) rfl kT61 (tp rfl) rfl) <| .nil) [6, 7, 8, 10, 50] rfl [(0, 4), (2, 7), (5, 8), (9, 5), (45, 3)] rfl ⟨iI, ⟨iI, ⟨iI, ⟨iI, ⟨iI, trivial⟩⟩⟩⟩⟩ (fun a89 w89 st89 => ?_)
        refine aHN (st89.hkS (sb := 5) rfl) ?_
        refine aH1 (i := 7) (by decide +kernel) rfl ?_
        refine st89.seg 1 (sc rfl (op_call (l := [.tmp 50]) rfl kN110 (.cons (tp rfl) .nil) (spec_moduleName_w p79)) <| .nil) [6, 7, 8, 10, 51] rfl [(0, 4), (2, 7), (5, 8), (9, 5), (45, 3)] rfl ⟨iI, ⟨iI, ⟨iI, ⟨iI, ⟨iI, trivial⟩⟩⟩⟩⟩ (fun a90 w90 st90 => ?_)
        refine aHN (st90.hkS (sb := 5) rfl) ?_
        refine aH1 (i := 8) (by decide +kernel) rfl ?_
        refine st90.seg 1 (sc rfl (oA rfl (tp rfl)) <| .nil) [6, 7, 8, 10, 11] rfl [(0, 4), (2, 7), (5, 8), (9, 5), (45, 3)] rfl ⟨iI, ⟨iI, ⟨iI, ⟨iI, ⟨iI, trivial⟩⟩⟩⟩⟩ (fun a91 w91 st91 => ?_)
        refine aHN (st91.hkS (sb := 5) rfl) ?_
        refine aH0 (by decide +kernel) ?_
        refine st91.stG (s := 45) (sb := 5) 8 3 rfl (by simp) (by simp) (by decide) rfl rfl iI iI [6, 7, 8, 10, 11] rfl [0, 2, 9] rfl rfl rfl (fun G92 st92 => ?_)
        have st93 := st92.gs (Gs' := [q58_0, q58_1, q58_2, oneB none, G86, q58_5, q58_6, q58_7, G92]) rfl
        refine then_normal (wp_seq (wp_seq (wp_region_list ?_)))
        obtain ⟨v94, p94, h96⟩ := bs h84
        obtain ⟨v95, p95, h97⟩ := bs h96
        refine st93.seg 9 (
           sc rfl (oM rfl (tp rfl)) <|
           sc rfl (op_call (l := [.tmp 52]) rfl kN53 (.cons (tp rfl) .nil) (spec_validName_w p94)) <|
           sc rfl (op_not rfl (tp rfl)) <|
           sc rfl (oM rfl (tp rfl)) <|
           sg rfl rfl (fun hg => oM rfl (tp rfl)) <|
           sg rfl rfl (fun hg => op_call (l := [.tmp 56]) rfl kN64 (.cons (opd_g hg rfl) .nil) (spec_parent_w (gh hg p95))) <|
           sg rfl rfl (fun hg => op_neS rfl (opd_g hg rfl) (opd_str (by decide))) <|
           sg rfl rfl (fun hg => oM rfl (opd_g hg rfl)) <|
           sgg rfl rfl (fun hg => oM rfl (opd_nm rfl)) <| .nil) [6, 7, 8, 10, 11, 55, 59, 60] rfl [(0, 4), (2, 7), (5, 8), (9, 5)] rfl ⟨iI, ⟨iI, ⟨iI, ⟨iI, trivial⟩⟩⟩⟩ (fun a98 w98 st98 => ?_)
        obtain ⟨v100, p100, h101⟩ := bs h97
        refine st98.cSFhB (sb := 0) (l := [.const (.int .i64 2)]) 4 rfl iI rfl rfl rfl kN117 (fun hg => (st98.st.has 60 _ rfl).1 hg) (by simp) (fun hg => (.cons cI .nil)) (fun hg => spec_reader_pick_w (gh hg p100)) [6, 7, 8, 10, 11, 55, 59] rfl [2, 5, 9] rfl rfl (by decide) (fun G99 M99 a99 w99 st99 => ?_)
        have st102 := st99.gs (Gs' := [q58_0, q58_1, q58_2, oneB none, G99, q58_5, q58_6, q58_7, G92]) rfl
        refine st102.seg 3 (
           sgg rfl rfl (fun hg => oCI rfl (opd_g hg rfl) cI) <|
           sg rfl rfl (fun hg => op_and rfl (opd_g hg rfl) (opd_gg hg rfl)) <|
           sc rfl (op_or rfl (tp rfl) (opd_tmp rfl)) <| .nil) [6, 7, 8, 10, 11, 64] rfl [(0, 4), (2, 7), (5, 8), (9, 5)] rfl ⟨iI, ⟨iI, ⟨iI, ⟨iI, trivial⟩⟩⟩⟩ (fun a103 w103 st103 => ?_)
        refine wpList_nil (then_normal ?_)
        refine st103.cs (c := 64) rfl h101 (fun c104 h104 => ?_) (fun c105 h105 => ?_)
        ·
         refine wp_exit (thn_exit (exit_here ?_))
         have st106 := st103.unm (s := 5) 8 rfl rfl iI [0, 2, 9] rfl
         refine then_normal ?_
         obtain rfl := Option.some.inj h104
         exact ⟨_, _, _, _, _, _, _, _, _, _, st106.sel [6, 7, 8, 10] rfl [(0, 4), (2, 7), (5, 8), (9, 5)] rfl ⟨iI, ⟨iI, ⟨iI, ⟨iI, trivial⟩⟩⟩⟩⟩
        ·
         refine wp_skip (then_normal (wp_region_list ?_))
         refine st103.nmR (s := 9) 5 rfl rfl iI [0, 2, 5] rfl (fun g107 A107 c107 hA107 st107 => ?_)
         refine st107.seg 3 (
            sc rfl (oM rfl (tp rfl)) <|
            sc rfl (oM rfl (tp rfl)) <|
            sc rfl (op_lit (opds := [.const (.int .i64 0), .const (.int .i64 0), .const (.int .i64 2)]) rfl kS25 kY25 rfl rfl (by decide) (.cons cI (.cons cI (.cons cI .nil)))) <| .nil) [6, 7, 8, 10, 11, 67] rfl [(0, 4), (2, 7), (5, 8), (9, 5), (65, 5), (66, 4)] rfl ⟨iI, ⟨iI, ⟨iI, ⟨iI, ⟨iI, ⟨iI, trivial⟩⟩⟩⟩⟩⟩ (fun a108 w108 st108 => ?_)
         obtain ⟨v110, p110, h111⟩ := bs h105
         refine st108.cSF (l := [.tmp 67]) 4 (st108.bkN (s := 0) rfl iI) rfl rfl kN124 ((st108.st.has 66 _ rfl).1.trans (st108.st.has 0 _ rfl).1.symm) (by simp) (.cons (tp rfl) .nil) (spec_reader_one_w p110) [6, 7, 8, 10, 11] rfl [2, 5, 9, 65] rfl rfl (by decide) (fun G109 M109 a109 w109 st109 => ?_)
         have st112 := st109.gs (Gs' := [q58_0, q58_1, q58_2, oneB none, G109, q58_5, q58_6, q58_7, G92]) rfl
         refine st112.seg 3 (
            sc rfl (oM rfl (tp rfl)) <|
            sc rfl (op_build (parts := [(0, .tmp 68), (1, .tmp 69)]) (ns := [1, 1, 1, 1, 1]) (zs := zpStmt) rfl rfl kB64 kC64 (fun w a hl => by
 intro p hp; simp only [List.mem_cons, List.not_mem_nil, or_false] at hp
 rcases hp with rfl | rfl
 ·
  exact ⟨by decide, Rep.len (α := Int) (OpdR.cells (tp rfl) hl)⟩
 ·
  exact ⟨by decide, Rep.len (α := Str) (OpdR.cells (tp rfl) hl)⟩) (fun w a hl => Stmt.parts (x := (⟨v110.2, v79, 0, ⟨[]⟩, 0⟩ : Stmt)) (OpdR.cells (tp rfl) hl) (OpdR.cells (tp rfl) hl) ⟨rfl, trivial⟩ zero_str ⟨rfl, trivial⟩)) <|
            sc rfl (op_lit (opds := [.tmp 70]) rfl kS59 kY59 rfl rfl (by decide) (.cons (tp rfl) .nil)) <| .nil) [6, 7, 8, 10, 71] rfl [(0, 4), (2, 7), (5, 8), (9, 5), (65, 5)] rfl ⟨iI, ⟨iI, ⟨iI, ⟨iI, ⟨iI, trivial⟩⟩⟩⟩⟩ (fun a113 w113 st113 => ?_)
         have st115 := st113.unm (s := 65) 5 rfl rfl iI [0, 2, 5] rfl
         refine st115.tipR (s := 65) 5 rfl rfl (by simp) iI [0, 2, 5] rfl rfl (fun g116 st116 => ?_)
         obtain ⟨v118, p118, h119⟩ := bs h111
         refine st116.app 5 rfl rfl kE59 rfl rfl rfl row_dt p118 [6, 7, 8, 10] rfl [0, 2, 5] rfl rfl (fun g117 M117 a117 w117 st117 => ?_)
         have st120 := st117.gs (Gs' := [q58_0, q58_1, q58_2, oneB none, G109, oneB g117, q58_6, q58_7, G92]) rfl
         refine st120.seg 1 (
            sc rfl (oA rfl (tp rfl)) <| .nil) [6, 7, 8, 10] rfl [(0, 4), (2, 7), (5, 8), (9, 5)] rfl ⟨iI, ⟨iI, ⟨iI, ⟨iI, trivial⟩⟩⟩⟩ (fun a121 w121 st121 => ?_)
         refine wpList_nil (blk_normal ?_)
         have st122 := st121.unm (s := 5) 8 rfl rfl iI [0, 2, 9] rfl
         have st123 := st122.tipW (s := 9) 5 rfl rfl iI [0, 2, 5] rfl
         refine then_normal ?_
         obtain rfl := Option.some.inj h119
         exact ⟨_, _, _, _, _, _, _, _, _, _, st123.sel [6, 7, 8, 10] rfl [(0, 4), (2, 7), (5, 8), (9, 5)] rfl ⟨iI, ⟨iI, ⟨iI, ⟨iI, trivial⟩⟩⟩⟩⟩
       ·
        rintro a63 w63 ⟨M63, q63_0, q63_1, q63_2, q63_3, q63_4, q63_5, q63_6, q63_7, q63_8, st63⟩
        have h124 := k63
        obtain ⟨v125, p125, h126⟩ := bs h124
        refine st63.rg (
           sc rfl (oM rfl (tp rfl)) <|
           sc rfl (xAr rfl (tp rfl) cI p125) <|
           sc rfl (oA rfl (tp rfl)) <| .nil) [6, 7, 8, 10] rfl [(0, 4), (2, 7), (5, 8), (9, 5)] rfl ⟨iI, ⟨iI, ⟨iI, ⟨iI, trivial⟩⟩⟩⟩ (fun a127 w127 st127 => ?_)
        refine then_normal ?_
        exact ⟨_, (Option.some.inj h126).symm, ⟨_, _, _, _, _, _, _, _, _, _, st127.sel [6, 7, 8, 10] rfl [(0, 4), (2, 7), (5, 8), (9, 5)] rfl ⟨iI, ⟨iI, ⟨iI, ⟨iI, trivial⟩⟩⟩⟩⟩⟩
      ·
       refine wp_exit (thn_exit (thn_exit (exit_here ?_)))
       refine then_normal ?_
       have h128 := lo h62 hx58
       obtain rfl := Option.some.inj h128
       exact ⟨_, _, _, _, _, _, _, _, _, _, st60.sel [6, 7, 8] rfl [(0, 4), (2, 7), (5, 8), (9, 5)] rfl ⟨iI, ⟨iI, ⟨iI, ⟨iI, trivial⟩⟩⟩⟩⟩
     ·
      rintro a49 w49 ⟨M49, q49_0, q49_1, q49_2, q49_3, q49_4, q49_5, q49_6, q49_7, q49_8, st49⟩
      have h129 := k49
      have st130 := st49.frzW (s := 9) 5 rfl (by simp) iI [6, 7, 8] rfl [0, 2, 5] rfl rfl
      refine wp_region_list ?_
      obtain ⟨v133, p133, h134⟩ := bs h129
      refine st130.nmB (s := 5) 8 rfl rfl iI [0, 2] rfl (fun b131 st131 => ?_)
      refine st131.hdR (s := 5) 8 true (fun _ => ((PV.root.box rfl).fld owTree.f0)) rfl rfl iI [0, 2] rfl (fun g132 A132 c132 hA132 st132 => ?_)
      refine st132.seg 6 (
        sc rfl (xFa rfl kF30_0 (opd_nm rfl)) <|
        sc rfl (xLc (sb := 5) (.head _) rfl rfl rfl kT28 (tp rfl) rfl) <|
        sc rfl (oM rfl (tp rfl)) <|
        sc rfl (oM rfl (tp rfl)) <|
        sc rfl (xIa (g := g132) rfl kS28 (tp rfl) (tp rfl) rfl (fun h => hA132 h rfl) p133) <|
        sc rfl (xFa rfl kF61_5 (tp rfl)) <| .nil) [6, 7, 8, 76, 78] rfl [(0, 4), (2, 7), (5, 8)] rfl ⟨iI, ⟨iI, ⟨iI, trivial⟩⟩⟩ (fun a135 w135 st135 => ?_)
      refine st135.stF (sb := 5) 8 ((((PV.root.box rfl).fld owTree.f0).row (.head _) rfl (fun h => hA132 h rfl) p133).fld File.z5) rfl rfl rfl kT59 (by simp) (tp rfl) (tp rfl) rfl rfl iI [6, 7, 8] rfl [0, 2] rfl rfl (fun w136 st136 => ?_)
      refine wpList_nil (blk_normal ?_)
      have st137 := st136.unm (s := 5) 8 rfl rfl iI [0, 2] rfl
      refine then_normal ?_
      obtain rfl := Option.some.inj h134
      exact ⟨_, _, _, _, _, _, _, _, _, _, st137.sel [6, 7, 8] rfl [(0, 4), (2, 7), (5, 8)] rfl ⟨iI, ⟨iI, ⟨iI, trivial⟩⟩⟩⟩
    ·
     rintro a43 w43 ⟨M43, q43_0, q43_1, q43_2, q43_3, q43_4, q43_5, q43_6, q43_7, q43_8, st43⟩
     have h138 := k43
     obtain ⟨v139, p139, h140⟩ := bs h138
     refine st43.rg (
       sc rfl (oM rfl (tp rfl)) <|
       sc rfl (xAr rfl (tp rfl) cI p139) <|
       sc rfl (oA rfl (tp rfl)) <| .nil) [6, 7, 8] rfl [(0, 4), (2, 7), (5, 8)] rfl ⟨iI, ⟨iI, ⟨iI, trivial⟩⟩⟩ (fun a141 w141 st141 => ?_)
     refine then_normal ?_
     exact ⟨_, (Option.some.inj h140).symm, ⟨_, _, _, _, _, _, _, _, _, _, st141.sel [6, 7, 8] rfl [(0, 4), (2, 7), (5, 8)] rfl ⟨iI, ⟨iI, ⟨iI, trivial⟩⟩⟩⟩⟩
   ·
    refine wp_exit (thn_exit (thn_exit (exit_here ?_)))
    have st142 := st40.unm (s := 5) 8 rfl rfl iI [0, 2] rfl
    refine then_normal ?_
    have h143 := lo h42 hx35
    obtain rfl := Option.some.inj h143
    exact ⟨_, _, _, _, _, _, _, _, _, _, st142.sel [6, 7] rfl [(0, 4), (2, 7), (5, 8)] rfl ⟨iI, ⟨iI, ⟨iI, trivial⟩⟩⟩⟩
  ·
   rintro a31 w31 ⟨M31, q31_0, q31_1, q31_2, q31_3, q31_4, q31_5, q31_6, q31_7, q31_8, st31⟩
   have h144 := k31
   refine wp_seq (wp_region_list ?_)
   refine st31.nmB (s := 5) 8 rfl rfl iI [0, 2] rfl (fun b146 st146 => ?_)
   refine st146.ldW (sb := 5) 8 rfl rfl kT30 rfl (by simp) iI [6, 7] rfl [0, 2] rfl rfl (fun a145 w145 st145 => ?_)
   refine st145.seg 2 (
    sc rfl (oM rfl (tp rfl)) <|
    sc rfl (oM rfl (tp rfl)) <| .nil) [80, 81] rfl [(0, 4), (2, 7), (79, 8)] rfl ⟨iI, ⟨iI, ⟨iI, trivial⟩⟩⟩ (fun a147 w147 st147 => ?_)
   refine st147.nmB (s := 2) 7 rfl rfl iI [0, 79] rfl (fun b149 st149 => ?_)
   refine st149.stO (sb := 2) (tv := 79) 7 8 (PV.root.box rfl) rfl rfl rfl kT30 (by simp) (by simp) (by decide) (opd_nm rfl) rfl rfl rfl iI iI [80, 81] rfl [0] rfl rfl rfl (fun G148 w148 st148 => ?_)
   have st150 := st148.gs (Gs' := [q31_0, q31_1, q31_2, q31_3, q31_4, q31_5, q31_6, G148, oneB none]) rfl
   refine st150.seg 2 (
    sc rfl (oA rfl (tp rfl)) <|
    sc rfl (oA rfl (tp rfl)) <| .nil) [3, 4] rfl [(0, 4), (2, 7)] rfl ⟨iI, ⟨iI, trivial⟩⟩ (fun a151 w151 st151 => ?_)
   refine wpList_nil (then_normal (wp_ret ?_))
   obtain rfl := Option.some.inj h144
   exact st151.rs3O (s := 0) 4 7 rfl kT30 rfl rfl rfl rfl ⟨rfl, rfl⟩ iI iI (by decide) ⟨rfl, rfl⟩
end Go.Proofs.YtbnibckkfknpkaaGreatDoor
namespace Go.Proofs.YtbnibckkfknpkaaGreatDoor
open Go.RowKit
set_option maxRecDepth 10000
set_option maxHeartbeats 1600000
theorem kN74 : fnB Tryz.prog 74 = true := by kernel_rfl
theorem kN81 : fnB Tryz.prog 81 = true := by kernel_rfl
theorem kN29 : fnB Tryz.prog 29 = true := by kernel_rfl
theorem kN32 : fnB Tryz.prog 32 = true := by kernel_rfl
theorem kN35 : fnB Tryz.prog 35 = true := by kernel_rfl
theorem kN36 : fnB Tryz.prog 36 = true := by kernel_rfl
def m_spec_DrawMissingOf (x0 : List UInt8) : Option (Tree × (List Int) × Str) :=
(m_spec_newReader x0).bind fun v6 =>
(m_spec_plainOf v6).bind fun v9 =>
some (v9.2.1, v9.2.2.1, v9.2.2.2)
theorem spec_DrawMissingOf_w {x0 : List UInt8} {r : Tree × (List Int) × Str} (h : m_spec_DrawMissingOf x0 = some r) : Fn Tryz.prog 36 [dt x0] (dtup [dt r.1, dt r.2.1, dt r.2.2]) := by
 unfold m_spec_DrawMissingOf at h
 refine fnx (fn := Tryz.f36) 2 Tryz.func36 rfl (of_decide_eq_true rfl) rfl (fun M w0 a0 st0 => ?_)
 refine wp_seq (wp_region_list ?_)
 refine st0.alloc 1 rfl rfl kZ30 zrTree (by simp) [0] rfl [] rfl rfl (fun b2 M2 a2 w2 st2 => ?_)
 refine st2.seg 2 (
  sc rfl (oA rfl (opd_nil (α := Int))) <|
  sc rfl (oA rfl (opd_str (by decide))) <| .nil) [0] rfl [(2, 1)] rfl ⟨iI, trivial⟩ (fun a3 w3 st3 => ?_)
 refine wpList_nil (then_normal (wp_seq (wp_region_list ?_)))
 refine st3.seg 1 (
  sc rfl (oM rfl (tp rfl)) <| .nil) [5] rfl [(2, 1)] rfl ⟨iI, trivial⟩ (fun a4 w4 st4 => ?_)
 obtain ⟨v6, p6, h7⟩ := bs h
 refine st4.cN (l := [.tmp 5]) 0 rfl rfl kN74 (.cons (tp rfl) .nil) (spec_newReader_w p6) (by simp) [] rfl [2] rfl rfl (fun G5 M5 a5 w5 st5 => ?_)
 obtain ⟨v9, p9, h10⟩ := bs h7
 refine st5.cSF (l := []) 0 (st5.bkR (s := 6) rfl iI) rfl rfl kN81 rfl (by simp) .nil ((FnS.frz3 (spec_plainOf_w p9))) [] rfl [2] rfl rfl (by decide) (fun G8 M8 a8 w8 st8 => ?_)
 refine st8.seg 3 (
  sc rfl (xExt (i := 0) rfl (tp rfl) rfl) <|
  sc rfl (xExt (i := 1) rfl (tp rfl) rfl) <|
  sc rfl (xExt (i := 2) rfl (tp rfl) rfl) <| .nil) [8, 9, 10] rfl [(2, 1)] rfl ⟨iI, trivial⟩ (fun a11 w11 st11 => ?_)
 refine st11.store (sb := 2) 1 FldS.id rfl rfl rfl kT30 rfl rfl (tp rfl) rfl [9, 10] rfl [] rfl rfl (fun M13 w13 st13 => ?_)
 refine st13.seg 2 (
  sc rfl (oA rfl (tp rfl)) <|
  sc rfl (oA rfl (tp rfl)) <| .nil) [3, 4] rfl [(2, 1)] rfl ⟨iI, trivial⟩ (fun a14 w14 st14 => ?_)
 refine wpList_nil (then_normal (wp_ret ?_))
 obtain rfl := Option.some.inj h10
 exact st14.ret3c rfl kT30 rfl (st14.frozen (t := 3) rfl) (st14.frozen (t := 4) rfl) ⟨rfl, rfl⟩ rfl
def m_laws_FnMissingOf_s0 (v6 : Tree × (List Int) × Str) (v14 : List Str) (v35 : List Str) (s40 : Int) : Option (Int ⊕ (Unit ⊕ Bool)) :=
if (cmpI .lss s40 (v35.length : Int)) = true then ((atI v35 s40).bind fun v45 =>
(m_laws_hasText v14 v45).bind fun v46 =>
(atI v35 s40).bind fun v47 =>
(m_impl_CanFind v6.1 v6.2.1 v47).bind fun v48 =>
if (v46 == v48) = true then (some (.inr (.inr false)))
else ((i64 (s40 + (1 : Int))).bind fun v59 =>
some (.inl v59)))
else (some (.inr (.inl ())))
def m_laws_FnMissingOf (x0 : List UInt8) : Option Bool :=
if (cmpI .gtr (x0.length : Int) (1048576 : Int)) = true then (some true)
else ((m_spec_DrawMissingOf x0).bind fun v6 =>
(m_impl_MissingOf v6.1 v6.2.1 v6.2.2).bind fun v14 =>
(m_spec_MissingOf v6.1 v6.2.1 v6.2.2).bind fun v17 =>
(m_laws_equalTexts v14 v17).bind fun v18 =>
(gO ((!v18) == false) (m_impl_ValidTree v6.1)).bind fun v19 =>
(gO (((!v18) || (!v19)) == false) (m_impl_ValidPath v6.2.1)).bind fun v20 =>
(gO ((((!v18) || (!v19)) || (!v20)) == false) (m_impl_ValidName v6.2.2)).bind fun v21 =>
if ((((!v18) || (!v19)) || (!v20)) || (!v21)) = true then ((m_spec_MissingOf v6.1 v6.2.1 v6.2.2).bind fun v30 =>
(m_laws_equalTexts v14 v30).bind fun v31 =>
some v31)
else ((m_impl_ReachOf v6.1 v6.2.1 v6.2.2).bind fun v35 =>
Option.bind (α := Unit ⊕ Bool) (loopM (fun s40 => m_laws_FnMissingOf_s0 v6 v14 v35 s40) (0 : Int)) (Sum.elim (fun _b38 =>
(m_laws_rises v14).bind fun v64 =>
(gO (v64 == true) (m_laws_withinTexts v14 v35)).bind fun v65 =>
some (v64 && v65)) some)))
theorem laws_FnMissingOf_w {x0 : List UInt8} {r : Bool} (h : m_laws_FnMissingOf x0 = some r) : Fn Tryz.prog 6 [dt x0] (dt r) := by
 unfold m_laws_FnMissingOf at h
 refine fnx (fn := Tryz.f6) 1 Tryz.func6 rfl (of_decide_eq_true rfl) rfl (fun M w0 a0 st0 => ?_)
 refine st0.sq0 (
  sc rfl (oA rfl cB) <| .nil) [0] rfl (fun a1 w1 st1 => ?_)
 refine wp_seq ?_
 refine st1.sq0 (
  sc rfl (oM rfl (tp rfl)) <|
  sc rfl (op_lenL rfl kL42 (tp rfl)) <|
  sc rfl (oCI rfl (tp rfl) cI) <| .nil) [0, 11] rfl (fun a2 w2 st2 => ?_)
 refine st2.cs (c := 11) rfl h (fun c3 h3 => ?_) (fun c4 h4 => ?_)
 ·
  refine st2.sq0 (
   sc rfl (oA rfl cB) <| .nil) [2] rfl (fun a5 w5 st5 => ?_)
  refine wp_ret (thn_ret ?_)
  exact st5.ret rfl rfl h3
 ·
  refine wp_skip (then_normal (wp_seq (wp_region_list ?_)))
  obtain ⟨v6, p6, h7⟩ := bs h4
  refine st2.seg 6 (
   sc rfl (oM rfl (tp rfl)) <|
   sc rfl (op_call (l := [.tmp 13]) rfl kN36 (.cons (tp rfl) .nil) (spec_DrawMissingOf_w p6)) <|
   sc rfl (oM rfl (tp rfl)) <|
   sc rfl (xExt (i := 0) rfl (tp rfl) rfl) <|
   sc rfl (xExt (i := 1) rfl (tp rfl) rfl) <|
   sc rfl (xExt (i := 2) rfl (tp rfl) rfl) <| .nil) [15, 16, 17] rfl [] rfl trivial (fun a8 w8 st8 => ?_)
  refine st8.alloc 0 rfl rfl kZ30 zrTree (by simp) [15, 16, 17] rfl [] rfl rfl (fun b10 M10 a10 w10 st10 => ?_)
  refine st10.store (sb := 3) 0 FldS.id rfl rfl rfl kT30 rfl rfl (tp rfl) rfl [16, 17] rfl [] rfl rfl (fun M12 w12 st12 => ?_)
  refine st12.seg 2 (
   sc rfl (oA rfl (tp rfl)) <|
   sc rfl (oA rfl (tp rfl)) <| .nil) [4, 5] rfl [(3, 0)] rfl ⟨iI, trivial⟩ (fun a13 w13 st13 => ?_)
  refine wpList_nil (then_normal ?_)
  obtain ⟨v14, p14, h15⟩ := bs h7
  refine st13.sq (
   sc rfl (op_loadBox rfl kT30 (tp rfl)) <|
   sc rfl (oM rfl (tp rfl)) <|
   sc rfl (oM rfl (tp rfl)) <|
   sc rfl (op_call (l := [.tmp 18, .tmp 19, .tmp 20]) rfl kN37 (.cons (tp rfl) (.cons (tp rfl) (.cons (tp rfl) .nil))) ((impl_MissingOf_w p14)).fn) <|
   sc rfl (oA rfl (tp rfl)) <| .nil) [4, 5, 6] rfl [(3, 0)] rfl ⟨iI, trivial⟩ (fun a16 w16 st16 => ?_)
  refine wp_seq ?_
  obtain ⟨v17, p17, h22⟩ := bs h15
  obtain ⟨v18, p18, h23⟩ := bs h22
  obtain ⟨v19, p19, h24⟩ := bs h23
  obtain ⟨v20, p20, h25⟩ := bs h24
  obtain ⟨v21, p21, h26⟩ := bs h25
  refine st16.sq (
   sc rfl (oM rfl (tp rfl)) <|
   sc rfl (op_loadBox rfl kT30 (tp rfl)) <|
   sc rfl (oM rfl (tp rfl)) <|
   sc rfl (oM rfl (tp rfl)) <|
   sc rfl (op_call (l := [.tmp 23, .tmp 24, .tmp 25]) rfl kN38 (.cons (tp rfl) (.cons (tp rfl) (.cons (tp rfl) .nil))) ((spec_MissingOf_w p17)).fn) <|
   sc rfl (op_call (l := [.tmp 22, .tmp 26]) rfl kN29 (.cons (tp rfl) (.cons (tp rfl) .nil)) (laws_equalTexts_w p18)) <|
   sc rfl (op_not rfl (tp rfl)) <|
   sc rfl (oM rfl (tp rfl)) <|
   sg rfl rfl (fun hg => op_loadBox rfl kT30 (tp rfl)) <|
   sg rfl rfl (fun hg => op_call (l := [.tmp 30]) rfl kN39 (.cons (opd_g hg rfl) .nil) (impl_ValidTree_w (gh hg p19))) <|
   sg rfl rfl (fun hg => op_not rfl (opd_g hg rfl)) <|
   sc rfl (op_or rfl (tp rfl) (opd_tmp rfl)) <|
   sc rfl (oM rfl (tp rfl)) <|
   sg rfl rfl (fun hg => oM rfl (tp rfl)) <|
   sg rfl rfl (fun hg => op_call (l := [.tmp 35]) rfl kN40 (.cons (opd_g hg rfl) .nil) (impl_ValidPath_w (gh hg p20))) <|
   sg rfl rfl (fun hg => op_not rfl (opd_g hg rfl)) <|
   sc rfl (op_or rfl (tp rfl) (opd_tmp rfl)) <|
   sc rfl (oM rfl (tp rfl)) <|
   sg rfl rfl (fun hg => oM rfl (tp rfl)) <|
   sg rfl rfl (fun hg => op_call (l := [.tmp 40]) rfl kN41 (.cons (opd_g hg rfl) .nil) (impl_ValidName_w (gh hg p21))) <|
   sg rfl rfl (fun hg => op_not rfl (opd_g hg rfl)) <|
   sc rfl (op_or rfl (tp rfl) (opd_tmp rfl)) <| .nil) [4, 5, 6, 43] rfl [(3, 0)] rfl ⟨iI, trivial⟩ (fun a27 w27 st27 => ?_)
  refine st27.cs (c := 43) rfl h26 (fun c28 h28 => ?_) (fun c29 h29 => ?_)
  ·
   obtain ⟨v30, p30, h32⟩ := bs h28
   obtain ⟨v31, p31, h33⟩ := bs h32
   refine st27.sq0 (
    sc rfl (oM rfl (tp rfl)) <|
    sc rfl (op_loadBox rfl kT30 (tp rfl)) <|
    sc rfl (oM rfl (tp rfl)) <|
    sc rfl (oM rfl (tp rfl)) <|
    sc rfl (op_call (l := [.tmp 45, .tmp 46, .tmp 47]) rfl kN38 (.cons (tp rfl) (.cons (tp rfl) (.cons (tp rfl) .nil))) ((spec_MissingOf_w p30)).fn) <|
    sc rfl (op_call (l := [.tmp 44, .tmp 48]) rfl kN29 (.cons (tp rfl) (.cons (tp rfl) .nil)) (laws_equalTexts_w p31)) <|
    sc rfl (oA rfl (tp rfl)) <| .nil) [2] rfl (fun a34 w34 st34 => ?_)
   refine wp_ret (thn_ret ?_)
   exact st34.ret rfl rfl h33
  ·
   refine wp_skip (then_normal ?_)
   obtain ⟨v35, p35, h36⟩ := bs h29
   refine st27.sq (
    sc rfl (op_loadBox rfl kT30 (tp rfl)) <|
    sc rfl (oM rfl (tp rfl)) <|
    sc rfl (oM rfl (tp rfl)) <|
    sc rfl (op_call (l := [.tmp 50, .tmp 51, .tmp 52]) rfl kN28 (.cons (tp rfl) (.cons (tp rfl) (.cons (tp rfl) .nil))) ((impl_ReachOf_w p35)).fn) <|
    sc rfl (oA rfl (tp rfl)) <| .nil) [4, 6, 7] rfl [(3, 0)] rfl ⟨iI, trivial⟩ (fun a37 w37 st37 => ?_)
   obtain ⟨o38, p38, k38⟩ := bs h36
   refine wp_seq_join (fun a w => ∃ b38, o38 = .inl b38 /\ (∃ M1 q38_0, Sx (Frm.of w0) 81 M M1 [oneB q38_0] [(6, dt v14), (7, dt v35)] [] a w)) ?_ ?_
   ·
    refine st37.sq (
     sc rfl (oA rfl cI) <| .nil) [4, 6, 7, 8] rfl [(3, 0)] rfl ⟨iI, trivial⟩ (fun a39 w39 st39 => ?_)
    refine wp_block ?_
    refine loop_model p38 (fun s40 a w => ∃ M1 q40_0, Sx (Frm.of w0) 81 M M1 [oneB q40_0] [(4, dt v6.2.1), (6, dt v14), (7, dt v35), (8, dt s40)] [(3, 0, dbox q40_0 0 v6.1)] a w) ⟨_, _, st39.sel [4, 6, 7, 8] rfl [(3, 0)] rfl ⟨iI, trivial⟩⟩ ?_
    rintro s40 x40 a40 w40 ⟨M40, q40_0, st40⟩ hs40 hx40
    have h41 : m_laws_FnMissingOf_s0 v6 v14 v35 s40 = some x40 := hs40
    unfold m_laws_FnMissingOf_s0 at h41
    refine wp_seq ?_
    refine st40.sq (
      sc rfl (oM rfl (tp rfl)) <|
      sc rfl (oM rfl (tp rfl)) <|
      sc rfl (op_lenL rfl kL36 (tp rfl)) <|
      sc rfl (oCI rfl (tp rfl) (tp rfl)) <| .nil) [4, 6, 7, 8, 57] rfl [(3, 0)] rfl ⟨iI, trivial⟩ (fun a42 w42 st42 => ?_)
    refine st42.cs (c := 57) rfl h41 (fun c43 h43 => ?_) (fun c44 h44 => ?_)
    ·
     refine wp_skip (then_normal (wp_seq (wp_block (wp_seq ?_))))
     obtain ⟨v45, p45, h49⟩ := bs h43
     obtain ⟨v46, p46, h50⟩ := bs h49
     obtain ⟨v47, p47, h51⟩ := bs h50
     obtain ⟨v48, p48, h52⟩ := bs h51
     refine st42.dr (D := [_, _, _, _, _, _, _, _, _, _, _, _, _, _]) Tryz_mixed [[], [], [], [1, 2], [1, 2, 3], [0, 1, 2, 3, 4], [], [], [], [], [8, 9], [8, 9, 10], [0, 1, 2, 3, 4, 5, 6, 7, 8, 9, 10, 11], [0, 1, 2, 3, 4, 5, 6, 7, 8, 9, 10, 11, 12]] [[(6, none)], [(7, none)], [(8, none)], [(61, some 1), (62, some 2)], [(63, some 3)], [(60, some 0), (64, some 4)], [(3, none)], [(4, none)], [(7, none)], [(8, none)], [(68, some 8), (69, some 9)], [(70, some 10)], [(66, some 6), (67, some 7), (71, some 11)], [(65, some 5), (72, some 12)]] (by decide +kernel) (
      rc rfl rfl (oM rfl (tp rfl)) <|
       rc rfl rfl (oM rfl (tp rfl)) <|
       rc rfl rfl (oM rfl (tp rfl)) <|
       rc rfl rfl (xIdx rfl kS36 (tp rfl) (tp rfl) p45) <|
       rc rfl rfl (op_load rfl kT9 (tp rfl)) <|
       rc rfl rfl (op_call (l := [.tmp 60, .tmp 64]) rfl kN42 (.cons (tp rfl) (.cons (tp rfl) .nil)) (laws_hasText_w p46)) <|
       rc rfl rfl (op_loadBox rfl kT30 (tp rfl)) <|
       rc rfl rfl (oM rfl (tp rfl)) <|
       rc rfl rfl (oM rfl (tp rfl)) <|
       rc rfl rfl (oM rfl (tp rfl)) <|
       rc rfl rfl (xIdx rfl kS36 (tp rfl) (tp rfl) p47) <|
       rc rfl rfl (op_load rfl kT9 (tp rfl)) <|
       rc rfl rfl (op_call (l := [.tmp 66, .tmp 67, .tmp 71]) rfl kN31 (.cons (tp rfl) (.cons (tp rfl) (.cons (tp rfl) .nil))) (impl_CanFind_w p48)) <|
       rc rfl rfl (op_eqT rfl kV4 (tp rfl) (tp rfl)) <| .nil) [4, 6, 7, 8, 73] rfl [(3, 0)] rfl ⟨iI, trivial⟩ (fun a53 w53 st53 => ?_)
     refine then_normal ?_
     refine st53.cs (c := 73) rfl h52 (fun c54 h54 => ?_) (fun c55 h55 => ?_)
     ·
      refine st53.sq0 (
        sc rfl (oA rfl cB) <| .nil) [2] rfl (fun a56 w56 st56 => ?_)
      refine wp_ret (blk_ret (thn_ret (thn_ret (blk_ret (thn_ret ?_)))))
      have h57 := lo h54 hx40
      have h58 := jo h57 k38
      exact st56.ret rfl rfl h58
     ·
      refine wp_skip (blk_normal (then_normal ?_))
      obtain ⟨v59, p59, h60⟩ := bs h55
      refine st53.rg (
        sc rfl (oM rfl (tp rfl)) <|
        sc rfl (xAr rfl (tp rfl) cI p59) <|
        sc rfl (oA rfl (tp rfl)) <| .nil) [4, 6, 7, 8] rfl [(3, 0)] rfl ⟨iI, trivial⟩ (fun a61 w61 st61 => ?_)
      refine then_normal ?_
      exact ⟨_, (Option.some.inj h60).symm, ⟨_, _, st61.sel [4, 6, 7, 8] rfl [(3, 0)] rfl ⟨iI, trivial⟩⟩⟩
    ·
     refine wp_exit (thn_exit (thn_exit (exit_here ?_)))
     refine then_normal ?_
     have h62 := lo h44 hx40
     exact ⟨_, (Option.some.inj h62).symm, ⟨_, _, st42.sel [6, 7] rfl [] rfl trivial⟩⟩
   ·
    rintro a38 w38 ⟨b38, rfl, ⟨M38, q38_0, st38⟩⟩
    have h63 := jn k38
    obtain ⟨v64, p64, h66⟩ := bs h63
    obtain ⟨v65, p65, h67⟩ := bs h66
    refine st38.sq0 (
     sc rfl (oM rfl (tp rfl)) <|
     sc rfl (op_call (l := [.tmp 74]) rfl kN35 (.cons (tp rfl) .nil) (laws_rises_w p64)) <|
     sc rfl (oM rfl (tp rfl)) <|
     sg rfl rfl (fun hg => oM rfl (tp rfl)) <|
     sg rfl rfl (fun hg => oM rfl (tp rfl)) <|
     sg rfl rfl (fun hg => op_call (l := [.tmp 77, .tmp 78]) rfl kN32 (.cons (opd_g hg rfl) (.cons (opd_g hg rfl) .nil)) (laws_withinTexts_w (gh hg p65))) <|
     sc rfl (op_and rfl (tp rfl) (opd_tmp rfl)) <|
     sc rfl (oA rfl (tp rfl)) <| .nil) [2] rfl (fun a68 w68 st68 => ?_)
    refine wp_ret ?_
    exact st68.ret rfl rfl h67
end Go.Proofs.YtbnibckkfknpkaaGreatDoor
