/-
  Models of functions, and their walks: printed by a program of our own (wip/mxo.py).
  Models of functions, and their walks: printed by a program of our own (wip/mxo.py).
-/
import Derived.Test.YtbnibckkfknpkaaGreatDoorHH
import Derived.Test.YtbnibckkfknpkaaGreatDoorHG
namespace Go.Proofs.YtbnibckkfknpkaaGreatDoor
open Go.RowKit
set_option maxRecDepth 10000
set_option maxHeartbeats 1600000

theorem kN64 : fnB Tryz.prog 64 = true := by kernel_rfl
theorem kN53 : fnB Tryz.prog 53 = true := by kernel_rfl
theorem kN56 : fnB Tryz.prog 56 = true := by kernel_rfl
theorem kN51 : fnB Tryz.prog 51 = true := by kernel_rfl
theorem kN52 : fnB Tryz.prog 52 = true := by kernel_rfl
theorem kN68 : fnB Tryz.prog 68 = true := by kernel_rfl
theorem kN62 : fnB Tryz.prog 62 = true := by kernel_rfl
theorem kN63 : fnB Tryz.prog 63 = true := by kernel_rfl
theorem kN66 : fnB Tryz.prog 66 = true := by kernel_rfl
theorem kN65 : fnB Tryz.prog 65 = true := by kernel_rfl
theorem kN67 : fnB Tryz.prog 67 = true := by kernel_rfl
theorem kN49 : fnB Tryz.prog 49 = true := by kernel_rfl
theorem kN69 : fnB Tryz.prog 69 = true := by kernel_rfl
def m_spec_IsPackage (x0 : Tree) (x1 : List Int) (x2 : Str) : Option Bool :=
(m_spec_validTree x0).bind fun v2 =>
(gO ((!v2) == false) (m_spec_validPath x1)).bind fun v3 =>
(gO (((!v2) || (!v3)) == false) (m_spec_validName x2)).bind fun v4 =>
if (((!v2) || (!v3)) || (!v4)) = true then (some false)
else ((m_spec_find x0 x1 x2).bind fun v12 =>
some (cmpI .eql v12.kind (2 : Int) || cmpI .eql v12.kind (3 : Int)))

theorem spec_IsPackage_w {x0 : Tree} {x1 : List Int} {x2 : Str} {r : Bool} (h : m_spec_IsPackage x0 x1 x2 = some r) : Fn Tryz.prog 62 [dt x0, dt x1, dt x2] (dt r) := by
  unfold m_spec_IsPackage at h
  refine fnx (fn := Tryz.f62) 0 Tryz.func62 rfl (of_decide_eq_true rfl) rfl (fun M w0 a0 st0 => ?_)
  refine st0.sq0 (
    sc rfl (op_box rfl (tp rfl)) <|
    sc rfl (oA rfl cB) <| .nil) [1, 2, 3] rfl (fun a1 w1 st1 => ?_)
  refine wp_seq ?_
  obtain ⟨v2, p2, h5⟩ := bs h
  obtain ⟨v3, p3, h6⟩ := bs h5
  obtain ⟨v4, p4, h7⟩ := bs h6
  refine st1.sq0 (
    sc rfl (op_load rfl kT30 (tp rfl)) <|
    sc rfl (op_call (l := [.tmp 8]) rfl kN51 (.cons (tp rfl) .nil) (spec_validTree_w p2)) <|
    sc rfl (op_not rfl (tp rfl)) <|
    sc rfl (oM rfl (tp rfl)) <|
    sg rfl rfl (fun hg => oM rfl (tp rfl)) <|
    sg rfl rfl (fun hg => op_call (l := [.tmp 12]) rfl kN52 (.cons (opd_g hg rfl) .nil) (spec_validPath_w (gh hg p3))) <|
    sg rfl rfl (fun hg => op_not rfl (opd_g hg rfl)) <|
    sc rfl (op_or rfl (tp rfl) (opd_tmp rfl)) <|
    sc rfl (oM rfl (tp rfl)) <|
    sg rfl rfl (fun hg => oM rfl (tp rfl)) <|
    sg rfl rfl (fun hg => op_call (l := [.tmp 17]) rfl kN53 (.cons (opd_g hg rfl) .nil) (spec_validName_w (gh hg p4))) <|
    sg rfl rfl (fun hg => op_not rfl (opd_g hg rfl)) <|
    sc rfl (op_or rfl (tp rfl) (opd_tmp rfl)) <| .nil) [1, 2, 3, 20] rfl (fun a8 w8 st8 => ?_)
  refine st8.cs (c := 20) rfl h7 (fun c9 h9 => ?_) (fun c10 h10 => ?_)
  ·
    refine st8.sq0 (
      sc rfl (oA rfl cB) <| .nil) [6] rfl (fun a11 w11 st11 => ?_)
    refine wp_ret (thn_ret ?_)
    exact st11.ret rfl rfl h9
  ·
    refine wp_skip ?_
    refine then_normal ?_
    obtain ⟨v12, p12, h13⟩ := bs h10
    refine st8.sq0 (
      sc rfl (op_load rfl kT30 (tp rfl)) <|
      sc rfl (oM rfl (tp rfl)) <|
      sc rfl (oM rfl (tp rfl)) <|
      sc rfl (op_call (l := [.tmp 21, .tmp 22, .tmp 23]) rfl kN56 (.cons (tp rfl) (.cons (tp rfl) (.cons (tp rfl) .nil))) (spec_find_w p12)) <|
      sc rfl (op_fieldV Spec.fld0 rfl rfl kG56_0 (tp rfl)) <|
      sc rfl (oA rfl (tp rfl)) <| .nil) [7] rfl (fun a14 w14 st14 => ?_)
    refine st14.sq0 (
      sc rfl (oM rfl (tp rfl)) <|
      sc rfl (oCI rfl (tp rfl) cI) <|
      sc rfl (oM rfl (tp rfl)) <|
      sg rfl rfl (fun hg => oM rfl (tp rfl)) <|
      sg rfl rfl (fun hg => oCI rfl (opd_g hg rfl) cI) <|
      sc rfl (op_or rfl (tp rfl) (opd_tmp rfl)) <|
      sc rfl (oA rfl (tp rfl)) <| .nil) [6] rfl (fun a15 w15 st15 => ?_)
    refine wp_ret ?_
    exact st15.ret rfl rfl h13

def m_spec_KidsOf_s0 (x0 : Tree) (x1 : List Int) (x2 : Str) (v13 : List Str) (s18 : (List Str) × Int) : Option (((List Str) × Int) ⊕ (List Str)) :=
if (cmpI .lss s18.2 (v13.length : Int)) = true then (Option.bind (α := (List Str)) ((atI v13 s18.2).bind fun v24 =>
(m_spec_parent v24).bind fun v25 =>
(gO (decide (v25 = x2) == true) (atI v13 s18.2)).bind fun v26 =>
(gO (decide (v25 = x2) == true) (m_spec_find x0 x1 v26)).bind fun v27 =>
if (decide (v25 = x2) && cmpI .neq v27.kind (0 : Int)) = true then ((atI v13 s18.2).bind fun v35 =>
(m_spec_last v35).bind fun v36 =>
(m_spec_insertText s18.1 v36).bind fun v42 =>
some v42)
else (some s18.1)) fun o23 =>
(i64 (s18.2 + (1 : Int))).bind fun v46 =>
some (.inl (o23, v46)))
else (some (.inr s18.1))

def m_spec_KidsOf (x0 : Tree) (x1 : List Int) (x2 : Str) : Option (List Str) :=
(m_spec_validTree x0).bind fun v2 =>
(gO ((!v2) == false) (m_spec_validPath x1)).bind fun v3 =>
(gO ((((!v2) || (!v3)) == false) && (decide (x2 ≠ (⟨[]⟩ : Str)) == true)) (m_spec_IsPackage x0 x1 x2)).bind fun v4 =>
if (((!v2) || (!v3)) || (decide (x2 ≠ (⟨[]⟩ : Str)) && (!v4))) = true then (some [])
else ((m_spec_names x0).bind fun v13 =>
Option.bind (α := (List Str)) (loopM (fun s18 => m_spec_KidsOf_s0 x0 x1 x2 v13 s18) ([], (0 : Int))) fun o16 =>
some o16)

theorem spec_KidsOf_w {x0 : Tree} {x1 : List Int} {x2 : Str} {r : List Str} (h : m_spec_KidsOf x0 x1 x2 = some r) : FnOwn Tryz.prog 20 [dt x0, dt x1, dt x2] 9 r := by
  unfold m_spec_KidsOf at h
  refine fnxO (fn := Tryz.f20) 1 Tryz.func20 rfl (of_decide_eq_true rfl) rfl (fun M w0 a0 st0 => ?_)
  refine st0.sq0 (
    sc rfl (op_box rfl (tp rfl)) <|
    sc rfl (oA rfl (opd_nilTip (α := Str) (e := 9))) <| .nil) [1, 2, 3] rfl (fun a1 w1 st1 => ?_)
  refine wp_seq ?_
  obtain ⟨v2, p2, h5⟩ := bs h
  obtain ⟨v3, p3, h6⟩ := bs h5
  obtain ⟨v4, p4, h7⟩ := bs h6
  refine st1.sq0 (
    sc rfl (op_load rfl kT30 (tp rfl)) <|
    sc rfl (op_call (l := [.tmp 10]) rfl kN51 (.cons (tp rfl) .nil) (spec_validTree_w p2)) <|
    sc rfl (op_not rfl (tp rfl)) <|
    sc rfl (oM rfl (tp rfl)) <|
    sg rfl rfl (fun hg => oM rfl (tp rfl)) <|
    sg rfl rfl (fun hg => op_call (l := [.tmp 14]) rfl kN52 (.cons (opd_g hg rfl) .nil) (spec_validPath_w (gh hg p3))) <|
    sg rfl rfl (fun hg => op_not rfl (opd_g hg rfl)) <|
    sc rfl (op_or rfl (tp rfl) (opd_tmp rfl)) <|
    sc rfl (oM rfl (tp rfl)) <|
    sg rfl rfl (fun hg => oM rfl (tp rfl)) <|
    sg rfl rfl (fun hg => op_neS rfl (opd_g hg rfl) (opd_str (by decide))) <|
    sg rfl rfl (fun hg => oM rfl (opd_g hg rfl)) <|
    sgg rfl rfl (fun hg => op_load rfl kT30 (tp rfl)) <|
    sgg rfl rfl (fun hg => oM rfl (tp rfl)) <|
    sgg rfl rfl (fun hg => oM rfl (tp rfl)) <|
    sgg rfl rfl (fun hg => op_call (l := [.tmp 22, .tmp 23, .tmp 24]) rfl kN62 (.cons (opd_g hg rfl) (.cons (opd_g hg rfl) (.cons (opd_g hg rfl) .nil))) (spec_IsPackage_w (gh hg p4))) <|
    sgg rfl rfl (fun hg => op_not rfl (opd_g hg rfl)) <|
    sg rfl rfl (fun hg => op_and rfl (opd_g hg rfl) (opd_gg hg rfl)) <|
    sc rfl (op_or rfl (tp rfl) (opd_tmp rfl)) <| .nil) [1, 2, 3, 28] rfl (fun a8 w8 st8 => ?_)
  refine st8.cs (c := 28) rfl h7 (fun c9 h9 => ?_) (fun c10 h10 => ?_)
  ·
    refine st8.sq (
      sc rfl (oA rfl (opd_nilTip (α := Str) (e := 9))) <| .nil) [] rfl [(6, 0)] rfl ⟨fun _ h => (by cases h), trivial⟩ (fun a11 w11 st11 => ?_)
    refine wp_ret (thn_ret ?_)
    exact st11.ret_own 0 rfl rfl (fun _ h => (by cases h)) h9
  ·
    refine wp_skip ?_
    refine then_normal ?_
    refine st8.sq (
      sc rfl (op_lit0 (α := Str) (e := 9) rfl kS36) <|
      sc rfl (oA rfl (tp rfl)) <| .nil) [1, 2, 3] rfl [(7, 0)] rfl ⟨fun _ h => (by cases h), trivial⟩ (fun a12 w12 st12 => ?_)
    obtain ⟨v13, p13, h14⟩ := bs h10
    refine st12.sq (
      sc rfl (op_load rfl kT30 (tp rfl)) <|
      sc rfl (op_call (l := [.tmp 30]) rfl kN63 (.cons (tp rfl) .nil) ((spec_names_w p13)).fn) <|
      sc rfl (oA rfl (tp rfl)) <| .nil) [1, 2, 3, 8] rfl [(7, 0)] rfl ⟨fun _ h => (by cases h), trivial⟩ (fun a15 w15 st15 => ?_)
    obtain ⟨o16, p16, k16⟩ := bs h14
    refine wp_seq_join (fun a w => ∃ M1 q16_0, Sx (Frm.of w0) 64 M M1 [oneB q16_0] [] [(7, 0, dtip q16_0 9 o16)] a w) ?_ ?_
    ·
      refine st15.sq (
        sc rfl (oA rfl cI) <| .nil) [1, 2, 3, 8, 9] rfl [(7, 0)] rfl ⟨fun _ h => (by cases h), trivial⟩ (fun a17 w17 st17 => ?_)
      refine wp_block ?_
      refine loop_model p16 (fun s18 a w => ∃ M1 q18_0, Sx (Frm.of w0) 64 M M1 [oneB q18_0] [(1, dt x1), (2, dt x2), (3, dptr x0), (8, dt v13), (9, dt s18.2)] [(7, 0, dtip q18_0 9 s18.1)] a w) ⟨_, _, st17.sel [1, 2, 3, 8, 9] rfl [(7, 0)] rfl ⟨fun _ h => (by cases h), trivial⟩⟩ ?_
      rintro s18 x18 a18 w18 ⟨M18, q18_0, st18⟩ hs18 hx18
      have h19 : m_spec_KidsOf_s0 x0 x1 x2 v13 s18 = some x18 := hs18
      unfold m_spec_KidsOf_s0 at h19
      refine wp_seq ?_
      refine st18.sq (
          sc rfl (oM rfl (tp rfl)) <|
          sc rfl (oM rfl (tp rfl)) <|
          sc rfl (op_lenL rfl kL36 (tp rfl)) <|
          sc rfl (oCI rfl (tp rfl) (tp rfl)) <| .nil) [1, 2, 3, 8, 9, 35] rfl [(7, 0)] rfl ⟨fun _ h => h, trivial⟩ (fun a20 w20 st20 => ?_)
      refine st20.cs (c := 35) rfl h19 (fun c21 h21 => ?_) (fun c22 h22 => ?_)
      ·
        refine wp_skip ?_
        refine then_normal ?_
        obtain ⟨o23, p23, k23⟩ := bs h21
        refine wp_seq_join (fun a w => ∃ M1 q23_0, Sx (Frm.of w0) 64 M M1 [oneB q23_0] [(1, dt x1), (2, dt x2), (3, dptr x0), (8, dt v13), (9, dt s18.2)] [(7, 0, dtip q23_0 9 o23)] a w) ?_ ?_
        ·
          refine wp_block ?_
          refine wp_seq ?_
          obtain ⟨v24, p24, h28⟩ := bs p23
          obtain ⟨v25, p25, h29⟩ := bs h28
          obtain ⟨v26, p26, h30⟩ := bs h29
          obtain ⟨v27, p27, h31⟩ := bs h30
          refine st20.dr (D := [_, _, _, _, _, _, _, _, _, _, _, _, _, _, _, _, _, _]) Tryz_mixed [[], [], [0, 1], [0, 1, 2], [0, 1, 2, 3], [], [0, 1, 2, 3, 4, 5], [0, 1, 2, 3, 4, 5, 6], [0, 1, 2, 3, 4, 5, 6, 7], [0, 1, 2, 3, 4, 5, 6, 7], [0, 1, 2, 3, 4, 5, 6, 7], [0, 1, 2, 3, 4, 5, 6, 7], [0, 1, 2, 3, 4, 5, 6, 7, 10, 11], [0, 1, 2, 3, 4, 5, 6, 7, 10, 11, 12], [0, 1, 2, 3, 4, 5, 6, 7, 8, 9, 10, 11, 12, 13], [0, 1, 2, 3, 4, 5, 6, 7, 8, 9, 10, 11, 12, 13, 14], [0, 1, 2, 3, 4, 5, 6, 7, 8, 9, 10, 11, 12, 13, 14, 15], [0, 1, 2, 3, 4, 5, 6, 7, 8, 9, 10, 11, 12, 13, 14, 15, 16]] [[(8, none)], [(9, none)], [(38, some 0), (39, some 1)], [(40, some 2)], [(41, some 3)], [(2, none)], [(42, some 4), (43, some 5)], [(44, some 6)], [(3, none), (45, some 7)], [(1, none), (45, some 7)], [(8, none), (45, some 7)], [(9, none), (45, some 7)], [(48, some 10), (49, some 11), (45, some 7)], [(50, some 12), (45, some 7)], [(46, some 8), (47, some 9), (51, some 13), (45, some 7)], [(52, some 14), (45, some 7)], [(53, some 15), (45, some 7)], [(45, some 7), (54, some 16)]] (by decide +kernel) (
            rc rfl rfl (oM rfl (tp rfl)) <|
              rc rfl rfl (oM rfl (tp rfl)) <|
              rc rfl rfl (xIdx rfl kS36 (tp rfl) (tp rfl) p24) <|
              rc rfl rfl (op_load rfl kT9 (tp rfl)) <|
              rc rfl rfl (op_call (l := [.tmp 41]) rfl kN64 (.cons (tp rfl) .nil) (spec_parent_w p25)) <|
              rc rfl rfl (oM rfl (tp rfl)) <|
              rc rfl rfl (op_eqS rfl (tp rfl) (tp rfl)) <|
              rc rfl rfl (oM rfl (tp rfl)) <|
              rg rfl rfl rfl (fun hg => op_load rfl kT30 (tp rfl)) <|
              rg rfl rfl rfl (fun hg => oM rfl (tp rfl)) <|
              rg rfl rfl rfl (fun hg => oM rfl (tp rfl)) <|
              rg rfl rfl rfl (fun hg => oM rfl (tp rfl)) <|
              rg rfl rfl rfl (fun hg => xIdx rfl kS36 (opd_g hg rfl) (opd_g hg rfl) (gh hg p26)) <|
              rg rfl rfl rfl (fun hg => op_load rfl kT9 (opd_g hg rfl)) <|
              rg rfl rfl rfl (fun hg => op_call (l := [.tmp 46, .tmp 47, .tmp 51]) rfl kN56 (.cons (opd_g hg rfl) (.cons (opd_g hg rfl) (.cons (opd_g hg rfl) .nil))) (spec_find_w (gh hg p27))) <|
              rg rfl rfl rfl (fun hg => op_fieldV Spec.fld0 rfl rfl kG56_0 (opd_g hg rfl)) <|
              rg rfl rfl rfl (fun hg => oCI rfl (opd_g hg rfl) cI) <|
              rc rfl rfl (op_and rfl (tp rfl) (opd_tmp rfl)) <| .nil) [1, 2, 3, 8, 9, 55] rfl [(7, 0)] rfl ⟨fun _ h => h, trivial⟩ (fun a32 w32 st32 => ?_)
          refine then_normal ?_
          refine st32.cs (c := 55) rfl h31 (fun c33 h33 => ?_) (fun c34 h34 => ?_)
          ·
            refine wp_region_list ?_
            obtain ⟨v35, p35, h37⟩ := bs h33
            obtain ⟨v36, p36, h38⟩ := bs h37
            refine st32.seg 6 (
                sc rfl (oM rfl (tp rfl)) <|
                sc rfl (oM rfl (tp rfl)) <|
                sc rfl (oM rfl (tp rfl)) <|
                sc rfl (xIdx rfl kS36 (tp rfl) (tp rfl) p35) <|
                sc rfl (op_load rfl kT9 (tp rfl)) <|
                sc rfl (op_call (l := [.tmp 60]) rfl kN66 (.cons (tp rfl) .nil) (spec_last_w p36)) <| .nil) [1, 2, 3, 8, 9, 61] rfl [(7, 0), (56, 0)] rfl ⟨fun _ h => h, ⟨fun _ h => h, trivial⟩⟩ (fun a39 w39 st39 => ?_)
            obtain ⟨v42, p42, h43⟩ := bs h38
            refine st39.take (l := [.tmp 61]) 0 rfl rfl kN65 rfl rfl (.cons (tp rfl) .nil) (spec_insertText_w p42) [1, 2, 3, 8, 9] rfl [] rfl rfl (fun g41 M41 a41 w41 st41 => ?_)
            refine st41.seg 1 (
                sc rfl (oA rfl (tp rfl)) <| .nil) [1, 2, 3, 8, 9] rfl [(7, 0)] rfl ⟨fun _ h => h, trivial⟩ (fun a44 w44 st44 => ?_)
            refine wpList_nil ?_
            refine blk_normal ?_
            refine then_normal ?_
            obtain rfl := Option.some.inj h43
            exact ⟨_, _, st44.sel [1, 2, 3, 8, 9] rfl [(7, 0)] rfl ⟨fun _ h => h, trivial⟩⟩
          ·
            refine wp_skip ?_
            refine blk_normal ?_
            refine then_normal ?_
            obtain rfl := Option.some.inj h34
            exact ⟨_, _, st32.sel [1, 2, 3, 8, 9] rfl [(7, 0)] rfl ⟨fun _ h => h, trivial⟩⟩
        · rintro a23 w23 ⟨M23, q23_0, st23⟩
          have h45 := k23
          obtain ⟨v46, p46, h47⟩ := bs h45
          refine st23.rg (
              sc rfl (oM rfl (tp rfl)) <|
              sc rfl (xAr rfl (tp rfl) cI p46) <|
              sc rfl (oA rfl (tp rfl)) <| .nil) [1, 2, 3, 8, 9] rfl [(7, 0)] rfl ⟨fun _ h => h, trivial⟩ (fun a48 w48 st48 => ?_)
          refine then_normal ?_
          exact ⟨_, (Option.some.inj h47).symm, ⟨_, _, st48.sel [1, 2, 3, 8, 9] rfl [(7, 0)] rfl ⟨fun _ h => h, trivial⟩⟩⟩
      ·
        refine wp_exit (thn_exit (thn_exit (exit_here ?_)))
        refine then_normal ?_
        have h49 := lo h22 hx18
        obtain rfl := Option.some.inj h49
        exact ⟨_, _, st20.sel [] rfl [(7, 0)] rfl ⟨fun _ h => h, trivial⟩⟩
    · rintro a16 w16 ⟨M16, q16_0, st16⟩
      have h50 := k16
      refine st16.sq (
        sc rfl (oM rfl (tp rfl)) <|
        sc rfl (oA rfl (tp rfl)) <| .nil) [] rfl [(6, 0)] rfl ⟨fun _ h => h, trivial⟩ (fun a51 w51 st51 => ?_)
      refine wp_ret ?_
      exact st51.ret_own 0 rfl rfl (fun _ h => h) h50

def m_impl_IsPackage (x0 : Tree) (x1 : List Int) (x2 : Str) : Option Bool :=
(m_impl_FindSpec x0 x1 x2).bind fun v2 =>
some (cmpI .eql v2.kind (2 : Int) || cmpI .eql v2.kind (3 : Int))

theorem impl_IsPackage_w {x0 : Tree} {x1 : List Int} {x2 : Str} {r : Bool} (h : m_impl_IsPackage x0 x1 x2 = some r) : Fn Tryz.prog 67 [dt x0, dt x1, dt x2] (dt r) := by
  unfold m_impl_IsPackage at h
  refine fnx (fn := Tryz.f67) 0 Tryz.func67 rfl (of_decide_eq_true rfl) rfl (fun M w0 a0 st0 => ?_)
  refine st0.sq0 (
    sc rfl (op_box rfl (tp rfl)) <|
    sc rfl (oA rfl cB) <| .nil) [1, 2, 3] rfl (fun a1 w1 st1 => ?_)
  obtain ⟨v2, p2, h3⟩ := bs h
  refine st1.sq0 (
    sc rfl (op_load rfl kT30 (tp rfl)) <|
    sc rfl (oM rfl (tp rfl)) <|
    sc rfl (oM rfl (tp rfl)) <|
    sc rfl (op_call (l := [.tmp 8, .tmp 9, .tmp 10]) rfl kN59 (.cons (tp rfl) (.cons (tp rfl) (.cons (tp rfl) .nil))) (impl_FindSpec_w p2)) <|
    sc rfl (op_fieldV Spec.fld0 rfl rfl kG56_0 (tp rfl)) <|
    sc rfl (oA rfl (tp rfl)) <| .nil) [7] rfl (fun a4 w4 st4 => ?_)
  refine st4.sq0 (
    sc rfl (oM rfl (tp rfl)) <|
    sc rfl (oCI rfl (tp rfl) cI) <|
    sc rfl (oM rfl (tp rfl)) <|
    sg rfl rfl (fun hg => oM rfl (tp rfl)) <|
    sg rfl rfl (fun hg => oCI rfl (opd_g hg rfl) cI) <|
    sc rfl (op_or rfl (tp rfl) (opd_tmp rfl)) <|
    sc rfl (oA rfl (tp rfl)) <| .nil) [6] rfl (fun a5 w5 st5 => ?_)
  refine wp_ret ?_
  exact st5.ret rfl rfl h3

def m_impl_KidsOf_s0 (x2 : Str) (v14 : List Str) (s17 : (List Str) × Int) : Option (((List Str) × Int) ⊕ (List Str)) :=
if (cmpI .lss s17.2 (v14.length : Int)) = true then (Option.bind (α := (List Str)) ((atI v14 s17.2).bind fun v23 =>
(m_impl_ParentOf v23).bind fun v26 =>
if (decide (v26 = x2)) = true then ((m_impl_LastOf v23).bind fun v31 =>
(appO 16 s17.1 ([v31] : List Str)).bind fun v36 =>
some v36)
else (some s17.1)) fun o22 =>
(i64 (s17.2 + (1 : Int))).bind fun v40 =>
some (.inl (o22, v40)))
else (some (.inr s17.1))

def m_impl_KidsOf (x0 : Tree) (x1 : List Int) (x2 : Str) : Option (List Str) :=
(m_impl_ValidTree x0).bind fun v3 =>
(gO ((!v3) == false) (m_impl_ValidPath x1)).bind fun v4 =>
(gO ((((!v3) || (!v4)) == false) && (decide (x2 ≠ (⟨[]⟩ : Str)) == true)) (m_impl_IsPackage x0 x1 x2)).bind fun v5 =>
if (((!v3) || (!v4)) || (decide (x2 ≠ (⟨[]⟩ : Str)) && (!v5))) = true then (some [])
else (Option.bind (α := (List Str)) ((m_impl_FoundNames x0 x1).bind fun v14 =>
loopM (fun s17 => m_impl_KidsOf_s0 x2 v14 s17) ([], (0 : Int))) fun o13 =>
(m_impl_sorted o13).bind fun v48 =>
some v48)

theorem impl_KidsOf_w {x0 : Tree} {x1 : List Int} {x2 : Str} {r : List Str} (h : m_impl_KidsOf x0 x1 x2 = some r) : FnOwn Tryz.prog 21 [dt x0, dt x1, dt x2] 9 r := by
  unfold m_impl_KidsOf at h
  refine fnxO (fn := Tryz.f21) 1 Tryz.func21 rfl (of_decide_eq_true rfl) rfl (fun M w0 a0 st0 => ?_)
  refine st0.sq0 (
    sc rfl (op_box rfl (tp rfl)) <|
    sc rfl (oA rfl (opd_nilTip (α := Str) (e := 9))) <| .nil) [1, 2, 3] rfl (fun a1 w1 st1 => ?_)
  refine st1.sq (
    sc rfl (op_lit0 (α := Str) (e := 9) rfl kS36) <|
    sc rfl (oA rfl (tp rfl)) <| .nil) [1, 2, 3] rfl [(7, 0)] rfl ⟨fun _ h => (by cases h), trivial⟩ (fun a2 w2 st2 => ?_)
  refine wp_seq ?_
  obtain ⟨v3, p3, h6⟩ := bs h
  obtain ⟨v4, p4, h7⟩ := bs h6
  obtain ⟨v5, p5, h8⟩ := bs h7
  refine st2.sq (
    sc rfl (op_load rfl kT30 (tp rfl)) <|
    sc rfl (op_call (l := [.tmp 11]) rfl kN39 (.cons (tp rfl) .nil) (impl_ValidTree_w p3)) <|
    sc rfl (op_not rfl (tp rfl)) <|
    sc rfl (oM rfl (tp rfl)) <|
    sg rfl rfl (fun hg => oM rfl (tp rfl)) <|
    sg rfl rfl (fun hg => op_call (l := [.tmp 15]) rfl kN40 (.cons (opd_g hg rfl) .nil) (impl_ValidPath_w (gh hg p4))) <|
    sg rfl rfl (fun hg => op_not rfl (opd_g hg rfl)) <|
    sc rfl (op_or rfl (tp rfl) (opd_tmp rfl)) <|
    sc rfl (oM rfl (tp rfl)) <|
    sg rfl rfl (fun hg => oM rfl (tp rfl)) <|
    sg rfl rfl (fun hg => op_neS rfl (opd_g hg rfl) (opd_str (by decide))) <|
    sg rfl rfl (fun hg => oM rfl (opd_g hg rfl)) <|
    sgg rfl rfl (fun hg => op_load rfl kT30 (tp rfl)) <|
    sgg rfl rfl (fun hg => oM rfl (tp rfl)) <|
    sgg rfl rfl (fun hg => oM rfl (tp rfl)) <|
    sgg rfl rfl (fun hg => op_call (l := [.tmp 23, .tmp 24, .tmp 25]) rfl kN67 (.cons (opd_g hg rfl) (.cons (opd_g hg rfl) (.cons (opd_g hg rfl) .nil))) (impl_IsPackage_w (gh hg p5))) <|
    sgg rfl rfl (fun hg => op_not rfl (opd_g hg rfl)) <|
    sg rfl rfl (fun hg => op_and rfl (opd_g hg rfl) (opd_gg hg rfl)) <|
    sc rfl (op_or rfl (tp rfl) (opd_tmp rfl)) <| .nil) [1, 2, 3, 29] rfl [(7, 0)] rfl ⟨fun _ h => (by cases h), trivial⟩ (fun a9 w9 st9 => ?_)
  refine st9.cs (c := 29) rfl h8 (fun c10 h10 => ?_) (fun c11 h11 => ?_)
  ·
    refine st9.sq (
      sc rfl (oM rfl (tp rfl)) <|
      sc rfl (oA rfl (tp rfl)) <| .nil) [] rfl [(6, 0)] rfl ⟨fun _ h => (by cases h), trivial⟩ (fun a12 w12 st12 => ?_)
    refine wp_ret (thn_ret ?_)
    exact st12.ret_own 0 rfl rfl (fun _ h => (by cases h)) h10
  ·
    refine wp_skip ?_
    refine then_normal ?_
    obtain ⟨o13, p13, k13⟩ := bs h11
    refine wp_seq_join (fun a w => ∃ M1 q13_0, Sx (Frm.of w0) 51 M M1 [oneB q13_0] [] [(7, 0, dtip q13_0 9 o13)] a w) ?_ ?_
    ·
      obtain ⟨v14, p14, h15⟩ := bs p13
      refine st9.sq (
        sc rfl (op_load rfl kT30 (tp rfl)) <|
        sc rfl (oM rfl (tp rfl)) <|
        sc rfl (op_call (l := [.tmp 31, .tmp 32]) rfl kN49 (.cons (tp rfl) (.cons (tp rfl) .nil)) ((impl_FoundNames_w p14)).fn) <|
        sc rfl (op_lenL rfl kL36 (tp rfl)) <|
        sc rfl (oM rfl cI) <| .nil) [2, 33, 34, 35] rfl [(7, 0)] rfl ⟨fun _ h => (by cases h), trivial⟩ (fun a16 w16 st16 => ?_)
      refine wp_block ?_
      refine loop_model h15 (fun s17 a w => ∃ M1 q17_0, Sx (Frm.of w0) 51 M M1 [oneB q17_0] [(2, dt x2), (33, dt v14), (34, dt (v14.length : Int)), (35, dt s17.2)] [(7, 0, dtip q17_0 9 s17.1)] a w) ⟨_, _, st16.sel [2, 33, 34, 35] rfl [(7, 0)] rfl ⟨fun _ h => (by cases h), trivial⟩⟩ ?_
      rintro s17 x17 a17 w17 ⟨M17, q17_0, st17⟩ hs17 hx17
      have h18 : m_impl_KidsOf_s0 x2 v14 s17 = some x17 := hs17
      unfold m_impl_KidsOf_s0 at h18
      refine st17.sq (
          sc rfl (oCI rfl (tp rfl) (tp rfl)) <| .nil) [2, 33, 34, 35, 36] rfl [(7, 0)] rfl ⟨fun _ h => h, trivial⟩ (fun a19 w19 st19 => ?_)
      refine wp_seq ?_
      refine st19.cs (c := 36) rfl h18 (fun c20 h20 => ?_) (fun c21 h21 => ?_)
      ·
        refine wp_skip ?_
        refine then_normal ?_
        obtain ⟨o22, p22, k22⟩ := bs h20
        refine wp_seq_join (fun a w => ∃ M1 q22_0, Sx (Frm.of w0) 51 M M1 [oneB q22_0] [(2, dt x2), (33, dt v14), (34, dt (v14.length : Int)), (35, dt s17.2)] [(7, 0, dtip q22_0 9 o22)] a w) ?_ ?_
        ·
          refine wp_block ?_
          obtain ⟨v23, p23, h24⟩ := bs p22
          refine st19.sq (
              sc rfl (xIdx rfl kS36 (tp rfl) (tp rfl) p23) <|
              sc rfl (op_load rfl kT9 (tp rfl)) <|
              sc rfl (oA rfl (tp rfl)) <| .nil) [2, 9, 33, 34, 35] rfl [(7, 0)] rfl ⟨fun _ h => h, trivial⟩ (fun a25 w25 st25 => ?_)
          obtain ⟨v26, p26, h27⟩ := bs h24
          refine st25.sq (
              sc rfl (oM rfl (tp rfl)) <|
              sc rfl (op_call (l := [.tmp 39]) rfl kN68 (.cons (tp rfl) .nil) (impl_ParentOf_w p26)) <|
              sc rfl (oM rfl (tp rfl)) <|
              sc rfl (op_eqS rfl (tp rfl) (tp rfl)) <| .nil) [2, 9, 33, 34, 35, 42] rfl [(7, 0)] rfl ⟨fun _ h => h, trivial⟩ (fun a28 w28 st28 => ?_)
          refine st28.cs (c := 42) rfl h27 (fun c29 h29 => ?_) (fun c30 h30 => ?_)
          ·
            refine wp_region_list ?_
            obtain ⟨v31, p31, h32⟩ := bs h29
            refine st28.seg 4 (
                sc rfl (oM rfl (tp rfl)) <|
                sc rfl (oM rfl (tp rfl)) <|
                sc rfl (op_call (l := [.tmp 44]) rfl kN69 (.cons (tp rfl) .nil) (impl_LastOf_w p31)) <|
                sc rfl (op_lit (opds := [.tmp 45]) rfl kS36 kY36 rfl rfl (by decide) (.cons (tp rfl) .nil)) <| .nil) [2, 33, 34, 35, 46] rfl [(7, 0), (43, 0)] rfl ⟨fun _ h => h, ⟨fun _ h => h, trivial⟩⟩ (fun a33 w33 st33 => ?_)
            obtain ⟨v36, p36, h37⟩ := bs h32
            refine st33.app 0 rfl rfl kE36 rfl rfl rfl row_dt p36 [2, 33, 34, 35] rfl [] rfl rfl (fun g35 M35 a35 w35 st35 => ?_)
            refine st35.seg 1 (
                sc rfl (oA rfl (tp rfl)) <| .nil) [2, 33, 34, 35] rfl [(7, 0)] rfl ⟨fun _ h => h, trivial⟩ (fun a38 w38 st38 => ?_)
            refine wpList_nil ?_
            refine blk_normal ?_
            refine then_normal ?_
            obtain rfl := Option.some.inj h37
            exact ⟨_, _, st38.sel [2, 33, 34, 35] rfl [(7, 0)] rfl ⟨fun _ h => h, trivial⟩⟩
          ·
            refine wp_skip ?_
            refine blk_normal ?_
            refine then_normal ?_
            obtain rfl := Option.some.inj h30
            exact ⟨_, _, st28.sel [2, 33, 34, 35] rfl [(7, 0)] rfl ⟨fun _ h => h, trivial⟩⟩
        · rintro a22 w22 ⟨M22, q22_0, st22⟩
          have h39 := k22
          obtain ⟨v40, p40, h41⟩ := bs h39
          refine st22.rg (
              sc rfl (xAr rfl (tp rfl) cI p40) <|
              sc rfl (oM rfl (tp rfl)) <| .nil) [2, 33, 34, 35] rfl [(7, 0)] rfl ⟨fun _ h => h, trivial⟩ (fun a42 w42 st42 => ?_)
          refine then_normal ?_
          exact ⟨_, (Option.some.inj h41).symm, ⟨_, _, st42.sel [2, 33, 34, 35] rfl [(7, 0)] rfl ⟨fun _ h => h, trivial⟩⟩⟩
      ·
        refine wp_exit (thn_exit (thn_exit (exit_here ?_)))
        refine then_normal ?_
        have h43 := lo h21 hx17
        obtain rfl := Option.some.inj h43
        exact ⟨_, _, st19.sel [] rfl [(7, 0)] rfl ⟨fun _ h => h, trivial⟩⟩
    · rintro a13 w13 ⟨M13, q13_0, st13⟩
      have h44 := k13
      refine wp_seq ?_
      refine wp_region_list ?_
      refine st13.seg 1 (
        sc rfl (oM rfl (tp rfl)) <| .nil) [] rfl [(49, 0)] rfl ⟨fun _ h => h, trivial⟩ (fun a45 w45 st45 => ?_)
      obtain ⟨v48, p48, h49⟩ := bs h44
      refine st45.take (l := []) 0 rfl rfl kN70 rfl rfl .nil (impl_sorted_w p48) [] rfl [] rfl rfl (fun g47 M47 a47 w47 st47 => ?_)
      refine st47.seg 1 (
        sc rfl (oA rfl (tp rfl)) <| .nil) [] rfl [(6, 0)] rfl ⟨fun _ h => h, trivial⟩ (fun a50 w50 st50 => ?_)
      refine wpList_nil ?_
      refine then_normal ?_
      refine wp_ret ?_
      exact st50.ret_own 0 rfl rfl (fun _ h => h) h49

end Go.Proofs.YtbnibckkfknpkaaGreatDoor

namespace Go.Proofs.YtbnibckkfknpkaaGreatDoor
open Go.RowKit
set_option maxRecDepth 10000
set_option maxHeartbeats 1600000

theorem kT24 : tyB Tryz.prog 24 true 1 = true := by kernel_rfl
theorem kN13 : fnB Tryz.prog 13 = true := by kernel_rfl
theorem kN15 : fnB Tryz.prog 15 = true := by kernel_rfl
theorem kN16 : fnB Tryz.prog 16 = true := by kernel_rfl
theorem kN18 : fnB Tryz.prog 18 = true := by kernel_rfl
theorem kN19 : fnB Tryz.prog 19 = true := by kernel_rfl
theorem kN20 : fnB Tryz.prog 20 = true := by kernel_rfl
theorem kN21 : fnB Tryz.prog 21 = true := by kernel_rfl
theorem kN22 : fnB Tryz.prog 22 = true := by kernel_rfl
theorem kN23 : fnB Tryz.prog 23 = true := by kernel_rfl
theorem kN24 : fnB Tryz.prog 24 = true := by kernel_rfl
theorem kN25 : fnB Tryz.prog 25 = true := by kernel_rfl
theorem kN26 : fnB Tryz.prog 26 = true := by kernel_rfl
def m_laws_FnExactKidsOf (x0 : Tree) (x1 : List Int) (x2 : Str) : Option Bool :=
if (cmpI .gtr (x1.length : Int) (1048576 : Int)) = true then (some true)
else (if (cmpI .gtr (x2.l.length : Int) (1048576 : Int)) = true then (some true)
else ((m_laws_szTree x0 (1048576 : Int)).bind fun v11 =>
if (cmpI .lss v11 (0 : Int)) = true then (some true)
else ((m_laws_toTree x0).bind fun v18 =>
(m_laws_toIntS x1).bind fun v19 =>
(m_spec_KidsOf v18 v19 x2).bind fun v20 =>
(m_laws_toTree x0).bind fun v27 =>
(m_laws_toIntS x1).bind fun v36 =>
(m_impl_KidsOf v27 v36 x2).bind fun v44 =>
(m_laws_eqStringS v44 v20).bind fun v50 =>
if (!v50) = true then (some false)
else ((m_laws_toTree x0).bind fun v57 =>
(m_laws_eqTree v27 v57).bind fun v58 =>
if (!v58) = true then (some false)
else ((m_laws_toIntS x1).bind fun v66 =>
(m_laws_eqIntS v36 v66).bind fun v67 =>
if (!v67) = true then (some false)
else ((m_laws_markTree v27 (1 : Int)).bind fun v78 =>
(m_laws_markIntS v36 v78.2).bind fun v84 =>
(gO (cmpI .lss v84.2 (0 : Int) == false) (m_laws_eqStringS v44 v20)).bind fun v88 =>
if (cmpI .lss v84.2 (0 : Int) || (!v88)) = true then (some false)
else ((m_laws_markStringS v44 (1 : Int)).bind fun v97 =>
(m_laws_heldStringS v97.1 (1 : Int)).bind fun v102 =>
if (cmpI .lss v102 (0 : Int)) = true then (some false)
else (if (cmpI .neq v102 v97.2) = true then (some false)
else ((m_laws_toTree x0).bind fun v113 =>
(m_laws_toIntS x1).bind fun v114 =>
(m_impl_KidsOf v113 v114 x2).bind fun v115 =>
(m_laws_eqStringS v115 v20).bind fun v120 =>
if (!v120) = true then (some false)
else ((m_laws_heldStringS v97.1 (1 : Int)).bind fun v127 =>
if (cmpI .lss v127 (0 : Int)) = true then (some false)
else (if (cmpI .neq v127 v97.2) = true then (some false)
else (some true))))))))))))

theorem laws_FnExactKidsOf_w {x0 : Tree} {x1 : List Int} {x2 : Str} {r : Bool} (h : m_laws_FnExactKidsOf x0 x1 x2 = some r) : Fn Tryz.prog 4 [dt x0, dt x1, dt x2] (dt r) := by
  unfold m_laws_FnExactKidsOf at h
  refine fnx (fn := Tryz.f4) 4 Tryz.func4 rfl (of_decide_eq_true rfl) rfl (fun M w0 a0 st0 => ?_)
  refine st0.sq0 (
    sc rfl (op_box rfl (tp rfl)) <|
    sc rfl (oA rfl cB) <| .nil) [1, 2, 3] rfl (fun a1 w1 st1 => ?_)
  refine wp_seq ?_
  refine st1.sq0 (
    sc rfl (oM rfl (tp rfl)) <|
    sc rfl (op_lenL rfl kL25 (tp rfl)) <|
    sc rfl (oCI rfl (tp rfl) cI) <| .nil) [1, 2, 3, 18] rfl (fun a2 w2 st2 => ?_)
  refine st2.cs (c := 18) rfl h (fun c3 h3 => ?_) (fun c4 h4 => ?_)
  ·
    refine st2.sq0 (
      sc rfl (oA rfl cB) <| .nil) [6] rfl (fun a5 w5 st5 => ?_)
    refine wp_ret (thn_ret ?_)
    exact st5.ret rfl rfl h3
  ·
    refine wp_skip ?_
    refine then_normal ?_
    refine wp_seq ?_
    refine st2.sq0 (
      sc rfl (oM rfl (tp rfl)) <|
      sc rfl (op_lenS rfl kX9 (tp rfl)) <|
      sc rfl (oCI rfl (tp rfl) cI) <| .nil) [1, 2, 3, 21] rfl (fun a6 w6 st6 => ?_)
    refine st6.cs (c := 21) rfl h4 (fun c7 h7 => ?_) (fun c8 h8 => ?_)
    ·
      refine st6.sq0 (
        sc rfl (oA rfl cB) <| .nil) [6] rfl (fun a9 w9 st9 => ?_)
      refine wp_ret (thn_ret ?_)
      exact st9.ret rfl rfl h7
    ·
      refine wp_skip ?_
      refine then_normal ?_
      refine st6.sq0 (
        sc rfl (oA rfl cI) <| .nil) [1, 2, 3, 7] rfl (fun a10 w10 st10 => ?_)
      obtain ⟨v11, p11, h12⟩ := bs h8
      refine st10.sq0 (
        sc rfl (op_load rfl kT24 (tp rfl)) <|
        sc rfl (oM rfl (tp rfl)) <|
        sc rfl (op_call (l := [.tmp 22, .tmp 23]) rfl kN13 (.cons (tp rfl) (.cons (tp rfl) .nil)) (laws_szTree_w p11)) <|
        sc rfl (oA rfl (tp rfl)) <| .nil) [1, 2, 3, 7] rfl (fun a13 w13 st13 => ?_)
      refine wp_seq ?_
      refine st13.sq0 (
        sc rfl (oM rfl (tp rfl)) <|
        sc rfl (oCI rfl (tp rfl) cI) <| .nil) [1, 2, 3, 26] rfl (fun a14 w14 st14 => ?_)
      refine st14.cs (c := 26) rfl h12 (fun c15 h15 => ?_) (fun c16 h16 => ?_)
      ·
        refine st14.sq0 (
          sc rfl (oA rfl cB) <| .nil) [6] rfl (fun a17 w17 st17 => ?_)
        refine wp_ret (thn_ret ?_)
        exact st17.ret rfl rfl h15
      ·
        refine wp_skip ?_
        refine then_normal ?_
        obtain ⟨v18, p18, h21⟩ := bs h16
        obtain ⟨v19, p19, h22⟩ := bs h21
        obtain ⟨v20, p20, h23⟩ := bs h22
        refine st14.sq0 (
          sc rfl (op_load rfl kT24 (tp rfl)) <|
          sc rfl (op_call (l := [.tmp 27]) rfl kN15 (.cons (tp rfl) .nil) (FnN.fn <| laws_toTree_w p18)) <|
          sc rfl (oM rfl (tp rfl)) <|
          sc rfl (op_call (l := [.tmp 29]) rfl kN16 (.cons (tp rfl) .nil) ((laws_toIntS_w p19)).fn) <|
          sc rfl (oM rfl (tp rfl)) <|
          sc rfl (op_call (l := [.tmp 28, .tmp 30, .tmp 31]) rfl kN20 (.cons (tp rfl) (.cons (tp rfl) (.cons (tp rfl) .nil))) ((spec_KidsOf_w p20)).fn) <|
          sc rfl (oA rfl (tp rfl)) <| .nil) [1, 2, 3, 8] rfl (fun a24 w24 st24 => ?_)
        refine wp_seq ?_
        refine wp_region_list ?_
        refine st24.seg 1 (
          sc rfl (op_load rfl kT24 (tp rfl)) <| .nil) [1, 2, 3, 8, 33] rfl [] rfl trivial (fun a25 w25 st25 => ?_)
        obtain ⟨v27, p27, h28⟩ := bs h23
        refine st25.cN (l := [.tmp 33]) 0 rfl rfl kN15 (.cons (tp rfl) .nil) (laws_toTree_w p27) (by simp) [1, 2, 3, 8] rfl [] rfl rfl (fun G26 M26 a26 w26 st26 => ?_)
        have st29 := st26.gs (Gs' := [G26, oneB none, oneB none, oneB none]) rfl
        refine st29.alcW (ow := (owTree (Ow.row 61 (owFile (Ow.row 64 (Ow.frz (α := Stmt))))))) 3 rfl rfl kZ30 (owTree.z Ow.row_z) (by simp) [1, 2, 3, 8] rfl [34] rfl rfl (fun b30 M30 a30 w30 st30 => ?_)
        have st31 := st30.gs (Gs' := [G26, oneB none, oneB none, (oneB (some b30))]) rfl
        refine st31.stO (sb := 9) (tv := 34) 3 0 (PV.root.box rfl) rfl rfl rfl kT30 (by simp) (by simp) (by decide) (opd_nm rfl) rfl rfl rfl (fun _ h => h) (fun _ h => h) [1, 2, 3, 8] rfl [] rfl rfl rfl (fun G32 w32 st32 => ?_)
        have st33 := st32.gs (Gs' := [oneB none, oneB none, oneB none, G32]) rfl
        refine wpList_nil ?_
        refine then_normal ?_
        refine wp_seq ?_
        refine wp_region_list ?_
        refine st33.seg 1 (
          sc rfl (oM rfl (tp rfl)) <| .nil) [1, 2, 3, 8, 35] rfl [(9, 3)] rfl ⟨fun _ h => h, trivial⟩ (fun a34 w34 st34 => ?_)
        obtain ⟨v36, p36, h37⟩ := bs h28
        refine st34.cN (l := [.tmp 35]) 1 rfl rfl kN16 (.cons (tp rfl) .nil) (laws_toIntS_w p36).n (by simp) [1, 2, 3, 8] rfl [9] rfl rfl (fun G35 M35 a35 w35 st35 => ?_)
        have st38 := st35.gs (Gs' := [oneB none, G35, oneB none, G32]) rfl
        refine st38.nmR (s := 36) 1 rfl rfl (fun _ h => h) [9] rfl (fun g39 A39 c39 hA39 st39 => ?_)
        refine st39.seg 1 (
          sc rfl (oA rfl (tp rfl)) <| .nil) [1, 2, 3, 8] rfl [(9, 3), (10, 1)] rfl ⟨fun _ h => h, ⟨fun _ h => h, trivial⟩⟩ (fun a40 w40 st40 => ?_)
        refine wpList_nil ?_
        refine then_normal ?_
        refine wp_seq ?_
        refine wp_region_list ?_
        refine st40.hdW (s := 9) 3 true (fun _ => (PV.root.box rfl)) rfl rfl (fun _ h => h) [10] rfl (fun cs41 hS41 st41 => ?_)
        refine st41.seg 3 (
          sc rfl (xLw (sb := 9) (.head _) rfl (hS41 rfl) rfl kT30 (opd_nm rfl) rfl) <|
          sc rfl (oM rfl (tp rfl)) <|
          sc rfl (oM rfl (tp rfl)) <| .nil) [1, 2, 3, 8, 37, 39] rfl [(9, 3), (10, 1), (38, 1)] rfl ⟨fun _ h => h, ⟨fun _ h => h, ⟨fun _ h => h, trivial⟩⟩⟩ (fun a42 w42 st42 => ?_)
        obtain ⟨v44, p44, h45⟩ := bs h37
        refine st42.cNb (l := [.tmp 37, .tmp 38, .tmp 39]) 2 rfl rfl kN21 st42.ob.sub (.cons (lendP (sb := 9) st42.ob 3 (PV.root.box rfl) (.head _) rfl (fits_all rfl (hS41 rfl)) (tp rfl) rfl (fun _ h => h)) (.cons (lendN st42.ob 1 (fun _ h => h) (tp rfl)) (.cons (opd2_of st42.ob.sub (tp rfl)) .nil))) (impl_KidsOf_w p44).n (full_row full_str) (by simp) [1, 2, 3, 8] rfl [9, 10] rfl rfl (fun G43 M43 a43 w43 st43 => ?_)
        have st46 := st43.gs (Gs' := [oneB none, G35, G43, G32]) rfl
        refine st46.nmR (s := 40) 2 rfl rfl (fun _ h => h) [9, 10] rfl (fun g47 A47 c47 hA47 st47 => ?_)
        refine st47.seg 1 (
          sc rfl (oA rfl (tp rfl)) <| .nil) [1, 2, 3, 8] rfl [(9, 3), (10, 1), (11, 2)] rfl ⟨fun _ h => h, ⟨fun _ h => h, ⟨fun _ h => h, trivial⟩⟩⟩ (fun a48 w48 st48 => ?_)
        refine wpList_nil ?_
        have st49 := st48.ncf (s := 9) 3 rfl rfl (fun _ h => h) [10, 11] rfl
        refine then_normal ?_
        refine wp_seq ?_
        obtain ⟨v50, p50, h51⟩ := bs h45
        refine st49.sq (
          sc rfl (oM rfl (tp rfl)) <|
          sc rfl (oM rfl (tp rfl)) <|
          sc rfl (op_callT (l := [.tmp 41, .tmp 42]) st49.ob.sub rfl kN22 (.cons (lendN st49.ob 2 (fun _ h => h) (tp rfl)) (.cons (opd2_of st49.ob.sub (tp rfl)) .nil)) (laws_eqStringS_w p50) flat_bool) <|
          sc rfl (op_not rfl (tp rfl)) <| .nil) [1, 2, 3, 8, 44] rfl [(9, 3), (10, 1), (11, 2)] rfl ⟨fun _ h => h, ⟨fun _ h => h, ⟨fun _ h => h, trivial⟩⟩⟩ (fun a52 w52 st52 => ?_)
        refine st52.cs (c := 44) rfl h51 (fun c53 h53 => ?_) (fun c54 h54 => ?_)
        ·
          refine st52.sq0 (
            sc rfl (oA rfl cB) <| .nil) [6] rfl (fun a55 w55 st55 => ?_)
          refine wp_ret (thn_ret ?_)
          exact st55.ret rfl rfl h53
        ·
          refine wp_skip ?_
          refine then_normal ?_
          refine wp_seq ?_
          refine wp_seq ?_
          obtain ⟨v57, p57, h59⟩ := bs h54
          obtain ⟨v58, p58, h60⟩ := bs h59
          refine st52.hdW (s := 9) 3 true (fun _ => (PV.root.box rfl)) rfl rfl (fun _ h => h) [10, 11] rfl (fun cs56 hS56 st56 => ?_)
          refine st56.dr (D := [_, _, _, _, _]) Tryz_mixed [[], [], [1], [0, 1, 2], [0, 1, 2, 3]] [[(9, none)], [(3, none)], [(46, some 1)], [(45, some 0), (47, some 2), (9, none)], [(48, some 3)]] (by decide +kernel) (
            rc rfl rfl (xLw (sb := 9) (.head _) rfl (hS56 rfl) rfl kT30 (opd_nm rfl) rfl) <|
            rc rfl rfl (op_load rfl kT24 (tp rfl)) <|
            rc rfl rfl (op_call (l := [.tmp 46]) rfl kN15 (.cons (tp rfl) .nil) (FnN.fn <| laws_toTree_w p57)) <|
            rc rfl rfl (op_callT (l := [.tmp 45, .tmp 47]) st56.ob.sub rfl kN18 (.cons (lendP (sb := 9) st56.ob 3 (PV.root.box rfl) (.head _) rfl (fits_all rfl (hS56 rfl)) (tp rfl) rfl (fun _ h => h)) (.cons (opd2_of st56.ob.sub (tp rfl)) .nil)) (laws_eqTree_w p58) flat_bool) <|
            rc rfl rfl (op_not rfl (tp rfl)) <| .nil) [1, 2, 3, 8, 49] rfl [(9, 3), (10, 1), (11, 2)] rfl ⟨fun _ h => h, ⟨fun _ h => h, ⟨fun _ h => h, trivial⟩⟩⟩ (fun a61 w61 st61 => ?_)
          have st62 := st61.ncf (s := 9) 3 rfl rfl (fun _ h => h) [10, 11] rfl
          refine then_normal ?_
          refine st62.cs (c := 49) rfl h60 (fun c63 h63 => ?_) (fun c64 h64 => ?_)
          ·
            refine st62.sq0 (
              sc rfl (oA rfl cB) <| .nil) [6] rfl (fun a65 w65 st65 => ?_)
            refine wp_ret (thn_ret ?_)
            exact st65.ret rfl rfl h63
          ·
            refine wp_skip ?_
            refine then_normal ?_
            refine wp_seq ?_
            obtain ⟨v66, p66, h68⟩ := bs h64
            obtain ⟨v67, p67, h69⟩ := bs h68
            refine st62.sq (
              sc rfl (oM rfl (tp rfl)) <|
              sc rfl (oM rfl (tp rfl)) <|
              sc rfl (op_call (l := [.tmp 51]) rfl kN16 (.cons (tp rfl) .nil) ((laws_toIntS_w p66)).fn) <|
              sc rfl (op_callT (l := [.tmp 50, .tmp 52]) st62.ob.sub rfl kN19 (.cons (lendN st62.ob 1 (fun _ h => h) (tp rfl)) (.cons (opd2_of st62.ob.sub (tp rfl)) .nil)) (laws_eqIntS_w p67) flat_bool) <|
              sc rfl (op_not rfl (tp rfl)) <| .nil) [1, 2, 3, 8, 54] rfl [(9, 3), (10, 1), (11, 2)] rfl ⟨fun _ h => h, ⟨fun _ h => h, ⟨fun _ h => h, trivial⟩⟩⟩ (fun a70 w70 st70 => ?_)
            refine st70.cs (c := 54) rfl h69 (fun c71 h71 => ?_) (fun c72 h72 => ?_)
            ·
              refine st70.sq0 (
                sc rfl (oA rfl cB) <| .nil) [6] rfl (fun a73 w73 st73 => ?_)
              refine wp_ret (thn_ret ?_)
              exact st73.ret rfl rfl h71
            ·
              refine wp_skip ?_
              refine then_normal ?_
              refine st70.sq (
                sc rfl (oA rfl cI) <| .nil) [1, 2, 3, 8, 12] rfl [(9, 3), (10, 1), (11, 2)] rfl ⟨fun _ h => h, ⟨fun _ h => h, ⟨fun _ h => h, trivial⟩⟩⟩ (fun a74 w74 st74 => ?_)
              refine wp_seq ?_
              refine wp_region_list ?_
              refine st74.hdW (s := 9) 3 true (fun _ => (PV.root.box rfl)) rfl rfl (fun _ h => h) [10, 11] rfl (fun cs75 hS75 st75 => ?_)
              refine st75.seg 2 (
                sc rfl (xLw (sb := 9) (.head _) rfl (hS75 rfl) rfl kT30 (opd_nm rfl) rfl) <|
                sc rfl (oM rfl (tp rfl)) <| .nil) [1, 2, 3, 8, 12, 55, 56] rfl [(9, 3), (10, 1), (11, 2)] rfl ⟨fun _ h => h, ⟨fun _ h => h, ⟨fun _ h => h, trivial⟩⟩⟩ (fun a76 w76 st76 => ?_)
              obtain ⟨v78, p78, h79⟩ := bs h72
              refine st76.cSF (l := [.tmp 56]) 3 (st76.bkH (sb := 9) (PV.root.box rfl) (.head _) rfl (fits_all rfl (hS75 rfl)) rfl (fun _ h => h)) rfl rfl kN23 (st76.st.has 55 _ rfl) (by simp) (.cons (tp rfl) .nil) (laws_markTree_w p78) [1, 2, 3, 8, 12] rfl [10, 11] rfl rfl (by decide) (fun G77 M77 a77 w77 st77 => ?_)
              have st80 := st77.gs (Gs' := [oneB none, G35, G43, G77]) rfl
              refine st80.seg 1 (
                sc rfl (oA rfl (tp rfl)) <| .nil) [1, 2, 3, 8, 12] rfl [(10, 1), (11, 2)] rfl ⟨fun _ h => h, ⟨fun _ h => h, trivial⟩⟩ (fun a81 w81 st81 => ?_)
              refine wpList_nil ?_
              refine then_normal ?_
              refine wp_seq ?_
              refine wp_region_list ?_
              refine st81.seg 2 (
                sc rfl (oM rfl (tp rfl)) <|
                sc rfl (oM rfl (tp rfl)) <| .nil) [1, 2, 3, 8, 12, 59] rfl [(11, 2), (58, 1)] rfl ⟨fun _ h => h, ⟨fun _ h => h, trivial⟩⟩ (fun a82 w82 st82 => ?_)
              obtain ⟨v84, p84, h85⟩ := bs h79
              refine st82.cSF (l := [.tmp 59]) 1 (st82.bkN (s := 58) rfl (fun _ h => h)) rfl rfl kN24 rfl (by simp) (.cons (tp rfl) .nil) (laws_markIntS_w p84) [1, 2, 3, 8, 12] rfl [11] rfl rfl (by decide) (fun G83 M83 a83 w83 st83 => ?_)
              have st86 := st83.gs (Gs' := [oneB none, G83, G43, G77]) rfl
              refine st86.seg 1 (
                sc rfl (oA rfl (tp rfl)) <| .nil) [1, 2, 3, 8, 12] rfl [(11, 2)] rfl ⟨fun _ h => h, trivial⟩ (fun a87 w87 st87 => ?_)
              refine wpList_nil ?_
              refine then_normal ?_
              refine wp_seq ?_
              obtain ⟨v88, p88, h89⟩ := bs h85
              refine st87.sq (
                sc rfl (oM rfl (tp rfl)) <|
                sc rfl (oCI rfl (tp rfl) cI) <|
                sc rfl (oM rfl (tp rfl)) <|
                sg rfl rfl (fun hg => oM rfl (tp rfl)) <|
                sg rfl rfl (fun hg => oM rfl (tp rfl)) <|
                sg rfl rfl (fun hg => op_callT (l := [.tmp 64, .tmp 65]) st87.ob.sub rfl kN22 (.cons (lendN st87.ob 2 (fun _ h => h) (opd_g hg rfl)) (.cons (opd2_of st87.ob.sub (opd_g hg rfl)) .nil)) (laws_eqStringS_w (gh hg p88)) flat_bool) <|
                sg rfl rfl (fun hg => op_not rfl (opd_g hg rfl)) <|
                sc rfl (op_or rfl (tp rfl) (opd_tmp rfl)) <| .nil) [1, 2, 3, 8, 68] rfl [(11, 2)] rfl ⟨fun _ h => h, trivial⟩ (fun a90 w90 st90 => ?_)
              refine st90.cs (c := 68) rfl h89 (fun c91 h91 => ?_) (fun c92 h92 => ?_)
              ·
                refine st90.sq0 (
                  sc rfl (oA rfl cB) <| .nil) [6] rfl (fun a93 w93 st93 => ?_)
                refine wp_ret (thn_ret ?_)
                exact st93.ret rfl rfl h91
              ·
                refine wp_skip ?_
                refine then_normal ?_
                refine st90.sq (
                  sc rfl (oA rfl cI) <| .nil) [1, 2, 3, 8, 13] rfl [(11, 2)] rfl ⟨fun _ h => h, trivial⟩ (fun a94 w94 st94 => ?_)
                refine wp_seq ?_
                refine wp_region_list ?_
                refine st94.seg 2 (
                  sc rfl (oM rfl (tp rfl)) <|
                  sc rfl (oM rfl (tp rfl)) <| .nil) [1, 2, 3, 8, 13, 70] rfl [(11, 2), (69, 2)] rfl ⟨fun _ h => h, ⟨fun _ h => h, trivial⟩⟩ (fun a95 w95 st95 => ?_)
                obtain ⟨v97, p97, h98⟩ := bs h92
                refine st95.cSF (l := [.tmp 70]) 2 (st95.bkN (s := 11) rfl (fun _ h => h)) rfl rfl kN25 ((st95.st.has 69 _ rfl).1.trans (st95.st.has 11 _ rfl).1.symm) (by simp) (.cons (tp rfl) .nil) (laws_markStringS_w p97) [1, 2, 3, 8, 13] rfl [] rfl rfl (by decide) (fun G96 M96 a96 w96 st96 => ?_)
                have st99 := st96.gs (Gs' := [oneB none, G83, G96, G77]) rfl
                refine st99.seg 1 (
                  sc rfl (oA rfl (tp rfl)) <| .nil) [1, 2, 3, 8, 13] rfl [(11, 2)] rfl ⟨fun _ h => h, trivial⟩ (fun a100 w100 st100 => ?_)
                refine wpList_nil ?_
                refine then_normal ?_
                refine st100.sq (
                  sc rfl (oA rfl cI) <| .nil) [1, 2, 3, 8, 13, 14] rfl [(11, 2)] rfl ⟨fun _ h => h, trivial⟩ (fun a101 w101 st101 => ?_)
                obtain ⟨v102, p102, h103⟩ := bs h98
                refine st101.sq (
                  sc rfl (oM rfl (tp rfl)) <|
                  sc rfl (oM rfl (tp rfl)) <|
                  sc rfl (op_callT (l := [.tmp 72, .tmp 73]) st101.ob.sub rfl kN26 (.cons (lendN st101.ob 2 (fun _ h => h) (tp rfl)) (.cons (opd2_of st101.ob.sub (tp rfl)) .nil)) (laws_heldStringS_w p102) flat_int) <|
                  sc rfl (oA rfl (tp rfl)) <| .nil) [1, 2, 3, 8, 13, 14] rfl [(11, 2)] rfl ⟨fun _ h => h, trivial⟩ (fun a104 w104 st104 => ?_)
                refine wp_seq ?_
                refine st104.sq (
                  sc rfl (oM rfl (tp rfl)) <|
                  sc rfl (oCI rfl (tp rfl) cI) <| .nil) [1, 2, 3, 8, 13, 14, 76] rfl [(11, 2)] rfl ⟨fun _ h => h, trivial⟩ (fun a105 w105 st105 => ?_)
                refine st105.cs (c := 76) rfl h103 (fun c106 h106 => ?_) (fun c107 h107 => ?_)
                ·
                  refine st105.sq0 (
                    sc rfl (oA rfl cB) <| .nil) [6] rfl (fun a108 w108 st108 => ?_)
                  refine wp_ret (thn_ret ?_)
                  exact st108.ret rfl rfl h106
                ·
                  refine wp_skip ?_
                  refine then_normal ?_
                  refine wp_seq ?_
                  refine st105.sq (
                    sc rfl (oM rfl (tp rfl)) <|
                    sc rfl (oM rfl (tp rfl)) <|
                    sc rfl (oCI rfl (tp rfl) (tp rfl)) <| .nil) [1, 2, 3, 8, 13, 79] rfl [(11, 2)] rfl ⟨fun _ h => h, trivial⟩ (fun a109 w109 st109 => ?_)
                  refine st109.cs (c := 79) rfl h107 (fun c110 h110 => ?_) (fun c111 h111 => ?_)
                  ·
                    refine st109.sq0 (
                      sc rfl (oA rfl cB) <| .nil) [6] rfl (fun a112 w112 st112 => ?_)
                    refine wp_ret (thn_ret ?_)
                    exact st112.ret rfl rfl h110
                  ·
                    refine wp_skip ?_
                    refine then_normal ?_
                    obtain ⟨v113, p113, h116⟩ := bs h111
                    obtain ⟨v114, p114, h117⟩ := bs h116
                    obtain ⟨v115, p115, h118⟩ := bs h117
                    refine st109.sq (
                      sc rfl (op_load rfl kT24 (tp rfl)) <|
                      sc rfl (op_call (l := [.tmp 80]) rfl kN15 (.cons (tp rfl) .nil) (FnN.fn <| laws_toTree_w p113)) <|
                      sc rfl (oM rfl (tp rfl)) <|
                      sc rfl (op_call (l := [.tmp 82]) rfl kN16 (.cons (tp rfl) .nil) ((laws_toIntS_w p114)).fn) <|
                      sc rfl (oM rfl (tp rfl)) <|
                      sc rfl (op_call (l := [.tmp 81, .tmp 83, .tmp 84]) rfl kN21 (.cons (tp rfl) (.cons (tp rfl) (.cons (tp rfl) .nil))) ((impl_KidsOf_w p115)).fn) <|
                      sc rfl (oA rfl (tp rfl)) <| .nil) [8, 13, 15] rfl [(11, 2)] rfl ⟨fun _ h => h, trivial⟩ (fun a119 w119 st119 => ?_)
                    refine wp_seq ?_
                    obtain ⟨v120, p120, h121⟩ := bs h118
                    refine st119.sq (
                      sc rfl (oM rfl (tp rfl)) <|
                      sc rfl (oM rfl (tp rfl)) <|
                      sc rfl (op_call (l := [.tmp 86, .tmp 87]) rfl kN22 (.cons (tp rfl) (.cons (tp rfl) .nil)) (laws_eqStringS_w p120)) <|
                      sc rfl (op_not rfl (tp rfl)) <| .nil) [13, 89] rfl [(11, 2)] rfl ⟨fun _ h => h, trivial⟩ (fun a122 w122 st122 => ?_)
                    refine st122.cs (c := 89) rfl h121 (fun c123 h123 => ?_) (fun c124 h124 => ?_)
                    ·
                      refine st122.sq0 (
                        sc rfl (oA rfl cB) <| .nil) [6] rfl (fun a125 w125 st125 => ?_)
                      refine wp_ret (thn_ret ?_)
                      exact st125.ret rfl rfl h123
                    ·
                      refine wp_skip ?_
                      refine then_normal ?_
                      refine st122.sq (
                        sc rfl (oA rfl cI) <| .nil) [13, 14] rfl [(11, 2)] rfl ⟨fun _ h => h, trivial⟩ (fun a126 w126 st126 => ?_)
                      obtain ⟨v127, p127, h128⟩ := bs h124
                      refine st126.sq0 (
                        sc rfl (oM rfl (tp rfl)) <|
                        sc rfl (oM rfl (tp rfl)) <|
                        sc rfl (op_callT (l := [.tmp 90, .tmp 91]) st126.ob.sub rfl kN26 (.cons (lendN st126.ob 2 (fun _ h => h) (tp rfl)) (.cons (opd2_of st126.ob.sub (tp rfl)) .nil)) (laws_heldStringS_w p127) flat_int) <|
                        sc rfl (oA rfl (tp rfl)) <| .nil) [13, 14] rfl (fun a129 w129 st129 => ?_)
                      refine wp_seq ?_
                      refine st129.sq0 (
                        sc rfl (oM rfl (tp rfl)) <|
                        sc rfl (oCI rfl (tp rfl) cI) <| .nil) [13, 14, 94] rfl (fun a130 w130 st130 => ?_)
                      refine st130.cs (c := 94) rfl h128 (fun c131 h131 => ?_) (fun c132 h132 => ?_)
                      ·
                        refine st130.sq0 (
                          sc rfl (oA rfl cB) <| .nil) [6] rfl (fun a133 w133 st133 => ?_)
                        refine wp_ret (thn_ret ?_)
                        exact st133.ret rfl rfl h131
                      ·
                        refine wp_skip ?_
                        refine then_normal ?_
                        refine wp_seq ?_
                        refine st130.sq0 (
                          sc rfl (oM rfl (tp rfl)) <|
                          sc rfl (oM rfl (tp rfl)) <|
                          sc rfl (oCI rfl (tp rfl) (tp rfl)) <| .nil) [97] rfl (fun a134 w134 st134 => ?_)
                        refine st134.cs (c := 97) rfl h132 (fun c135 h135 => ?_) (fun c136 h136 => ?_)
                        ·
                          refine st134.sq0 (
                            sc rfl (oA rfl cB) <| .nil) [6] rfl (fun a137 w137 st137 => ?_)
                          refine wp_ret (thn_ret ?_)
                          exact st137.ret rfl rfl h135
                        ·
                          refine wp_skip ?_
                          refine then_normal ?_
                          refine st134.sq0 (
                            sc rfl (oA rfl cB) <| .nil) [6] rfl (fun a138 w138 st138 => ?_)
                          refine wp_ret ?_
                          exact st138.ret rfl rfl h136

end Go.Proofs.YtbnibckkfknpkaaGreatDoor
