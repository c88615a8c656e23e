/-
  Walks of functions, printed by a program of our own (wip/gen.py).
  Walks of functions, printed by a program of our own (wip/gen.py).
  Walks of functions, printed by a program of our own (wip/gen.py).
  Walks of functions, printed by a program of our own (wip/gen.py).
  Walks of functions, printed by a program of our own (wip/gen.py).
-/
import Derived.Test.YtionokffhhiicaaGreatDoorHD
namespace Go.Proofs.YtionokffhhiicaaGreatDoor
open Go.RowKit
set_option maxRecDepth 10000

theorem spec_SameFinds_ok (t u : Tree) (path : List Int) (ht : smTree t) (hu : smTree u) (hpl : path.length ≤ 1099511627776) : Fn Tryz.prog 9 [dt t, dt u, dt path] (dt (sameFinds t u path)) := by
  refine fn_of_wp (fn := Tryz.f9) Tryz.func9 rfl (of_decide_eq_true rfl) (fun M w0 a0 hm st0 => ?_)
  have hnt := names_len ht
  have hnu := names_len hu
  refine wp_seq ?_
  refine region_seg st0 (.cons rfl (by decide) (.plain rfl (op_box rfl (opd_tmp rfl)))
    (.cons rfl (by decide) (.plain rfl (op_box rfl (opd_tmp rfl)))
    (.cons rfl (by decide) (.plain rfl (op_assign rfl opd_bool))
    .nil)))
    (.cons (s := 0) rfl trivial (.cons (s := 1) rfl trivial (.cons (s := 2) rfl trivial (.cons (s := 3) rfl trivial (.cons (s := 4) rfl trivial (.cons (s := 6) rfl trivial .nil)))))) (fun a1 w1 e1 st1 => ?_)
  refine then_normal ?_
  refine wp_seq ?_
  refine wp_seq ?_
  refine region_seg st1 (.cons rfl (by decide) (.plain rfl (op_load rfl (by kernel_rfl) (opd_tmp rfl)))
    (.cons rfl (by decide) (.plain rfl (op_call (l := [.tmp 11]) rfl (by kernel_rfl) (.cons (opd_tmp rfl) .nil) (spec_validTree_ok _ ht)))
    (.cons rfl (by decide) (.plain rfl (op_not rfl (opd_tmp rfl)))
    (.cons rfl (by decide) (.plain rfl (op_move rfl (opd_tmp rfl)))
    (.cons rfl (by decide) (.guarded rfl rfl (by decide) rfl dt_bv (fun hg => op_load rfl (by kernel_rfl) (opd_tmp rfl)))
    (.cons rfl (by decide) (.guarded rfl rfl (by decide) rfl dt_bv (fun hg => op_call (l := [.tmp 15]) rfl (by kernel_rfl) (.cons (opd_g hg rfl) .nil) (spec_validTree_ok _ hu)))
    (.cons rfl (by decide) (.guarded rfl rfl (by decide) rfl dt_bv (fun hg => op_not rfl (opd_g hg rfl)))
    (.cons rfl (by decide) (.plain rfl (op_or rfl (opd_tmp rfl) (opd_tmp rfl)))
    (.cons rfl (by decide) (.plain rfl (op_move rfl (opd_tmp rfl)))
    (.cons rfl (by decide) (.guarded rfl rfl (by decide) rfl dt_bv (fun hg => op_move rfl (opd_tmp rfl)))
    (.cons rfl (by decide) (.guarded rfl rfl (by decide) rfl dt_bv (fun hg => op_call (l := [.tmp 20]) rfl (by kernel_rfl) (.cons (opd_g hg rfl) .nil) (spec_validPath_ok _)))
    (.cons rfl (by decide) (.guarded rfl rfl (by decide) rfl dt_bv (fun hg => op_not rfl (opd_g hg rfl)))
    (.cons rfl (by decide) (.plain rfl (op_or rfl (opd_tmp rfl) (opd_tmp rfl)))
    .nil)))))))))))))
    (.cons (s := 0) rfl trivial (.cons (s := 1) rfl trivial (.cons (s := 2) rfl trivial (.cons (s := 3) rfl trivial (.cons (s := 4) rfl trivial (.cons (s := 6) rfl trivial (.cons (s := 23) rfl trivial .nil))))))) (fun a2 w2 e2 st2 => ?_)
  refine then_normal ?_
  refine cond_split (c := 23) st2 rfl (fun h1 => ?_) (fun h1 => ?_)
  ·
    have q0 := h1
    refine wp_seq ?_
    refine region_seg st2 (.cons rfl (by decide) (.plain rfl (op_assign rfl opd_bool))
      .nil)
      (.cons (s := 0) rfl trivial (.cons (s := 1) rfl trivial (.cons (s := 2) rfl trivial (.cons (s := 3) rfl trivial (.cons (s := 4) rfl trivial (.cons (s := 6) rfl trivial (.cons (s := 23) rfl trivial .nil))))))) (fun a3 w3 e3 st3 => ?_)
    refine then_normal ?_
    refine wp_ret (thn_ret ?_)
    refine ret_dtM rfl (fun _ h => h) st3 (t := 6) rfl ?_
    rw [sameFinds, if_pos q0]
  ·
    have q0 := h1
    refine wp_skip ?_
    refine then_normal ?_
    refine wp_seq ?_
    refine wp_region_list ?_
    refine seg_n 1 st2 (.cons rfl (by decide) (.plain rfl (op_load rfl (by kernel_rfl) (opd_tmp rfl)))
      .nil)
      (.cons (s := 0) rfl trivial (.cons (s := 1) rfl trivial (.cons (s := 2) rfl trivial (.cons (s := 3) rfl trivial (.cons (s := 4) rfl trivial (.cons (s := 6) rfl trivial (.cons (s := 23) rfl trivial (.cons (s := 24) rfl trivial .nil)))))))) (fun a4 w4 e4 st4 => ?_)
    refine wpl_own (l := [.tmp 24]) st4 rfl rfl rfl (by decide) (by kernel_rfl) (.cons (opd_tmp rfl) .nil) (spec_names_ok _ ht) (.cons (s := 0) rfl trivial (.cons (s := 1) rfl trivial (.cons (s := 2) rfl trivial (.cons (s := 3) rfl trivial (.cons (s := 4) rfl trivial (.cons (s := 6) rfl trivial (.cons (s := 23) rfl trivial .nil))))))) (fun g5 a5 w5 hg5 st5 => ?_)
    refine seg_n 1 st5 (.cons rfl (by decide) (.plain rfl (op_assign rfl (opd_tmp rfl)))
      .nil)
      (.cons (s := 0) rfl trivial (.cons (s := 1) rfl trivial (.cons (s := 2) rfl trivial (.cons (s := 3) rfl trivial (.cons (s := 4) rfl trivial (.cons (s := 6) rfl trivial (.cons (s := 7) rfl trivial (.cons (s := 23) rfl trivial .nil)))))))) (fun a6 w6 e6 st6 => ?_)
    refine wpList_nil ?_
    refine then_normal ?_
    refine wp_seq ?_
    refine region_seg st6 (.cons rfl (by decide) (.plain rfl (op_load rfl (by kernel_rfl) (opd_tmp rfl)))
      (.cons rfl (by decide) (.plain rfl (op_call (l := [.tmp 26]) rfl (by kernel_rfl) (.cons (opd_tmp rfl) .nil) (spec_names_ok _ hu).fn))
      (.cons rfl (by decide) (.plain rfl (op_assign rfl (opd_tmp rfl)))
      .nil)))
      (.cons (s := 0) rfl trivial (.cons (s := 1) rfl trivial (.cons (s := 2) rfl trivial (.cons (s := 3) rfl trivial (.cons (s := 4) rfl trivial (.cons (s := 6) rfl trivial (.cons (s := 7) rfl trivial (.cons (s := 8) rfl trivial (.cons (s := 23) rfl trivial .nil))))))))) (fun a7 w7 e7 st7 => ?_)
    refine then_normal ?_
    refine wp_seq ?_
    refine wp_seq ?_
    refine region_seg st7 (.cons rfl (by decide) (.plain rfl (op_assign rfl opd_int))
      .nil)
      (.cons (s := 0) rfl trivial (.cons (s := 1) rfl trivial (.cons (s := 2) rfl trivial (.cons (s := 3) rfl trivial (.cons (s := 4) rfl trivial (.cons (s := 6) rfl trivial (.cons (s := 7) rfl trivial (.cons (s := 8) rfl trivial (.cons (s := 9) rfl trivial (.cons (s := 23) rfl trivial .nil)))))))))) (fun a8 w8 e8 st8 => ?_)
    refine then_normal ?_
    refine wp_block ?_
    refine loop_st (ι := Nat) (fun k a w => ∃ g, TipOK (Frm.of w0) M g ∧ St (Frm.of w0) 64 (insO g M) [(0, dt t), (1, dt u), (2, dt path), (3, dptr t), (4, dptr u), (7, dtip g 9 (((names u).take k).foldl insertT (names t))), (8, dt (names u)), (9, dt (k : Int))] a w ∧ k ≤ (names u).length ∧ (((names u).take k).foldl insertT (names t)).length ≤ (names t).length + k) (fun k => (names u).length - k) 0 ?_ ?_
    ·
      exact ⟨g5, hg5, st8.pick (.cons (s := 0) rfl trivial (.cons (s := 1) rfl trivial (.cons (s := 2) rfl trivial (.cons (s := 3) rfl trivial (.cons (s := 4) rfl trivial (.cons (s := 7) rfl trivial (.cons (s := 8) rfl trivial (.cons (s := 9) rfl trivial .nil)))))))), Nat.zero_le _, Nat.le_refl _⟩
    ·
      rintro k a9 w9 ⟨g9, hg9, st9, hk, hl⟩
      refine wp_seq ?_
      refine wp_seq ?_
      refine region_seg st9 (.cons rfl (by decide) (.plain rfl (op_move rfl (opd_tmp rfl)))
        (.cons rfl (by decide) (.plain rfl (op_move rfl (opd_tmp rfl)))
        (.cons rfl (by decide) (.plain rfl (op_lenL rfl (by kernel_rfl) (opd_tmp rfl)))
        (.cons rfl (by decide) (.plain rfl (op_cmpI rfl (by decide) (opd_tmp rfl) (opd_tmp rfl)))
        .nil))))
        (.cons (s := 0) rfl trivial (.cons (s := 1) rfl trivial (.cons (s := 2) rfl trivial (.cons (s := 3) rfl trivial (.cons (s := 4) rfl trivial (.cons (s := 7) rfl trivial (.cons (s := 8) rfl trivial (.cons (s := 9) rfl trivial (.cons (s := 31) rfl trivial .nil))))))))) (fun a10 w10 e10 st10 => ?_)
      refine then_normal ?_
      refine cond_split (c := 31) st10 rfl (fun h2 => ?_) (fun h2 => ?_)
      ·
        obtain ⟨x, hx⟩ := idx_of h2
        have hlt := lt_of_get hx
        refine wp_skip ?_
        refine then_normal ?_
        refine wp_seq ?_
        refine wp_block ?_
        refine wp_region_list ?_
        refine seg_n 5 st10 (.cons rfl (by decide) (.plain rfl (op_move rfl (opd_tmp rfl)))
          (.cons rfl (by decide) (.plain rfl (op_move rfl (opd_tmp rfl)))
          (.cons rfl (by decide) (.plain rfl (op_move rfl (opd_tmp rfl)))
          (.cons rfl (by decide) (.plain rfl (op_indexE rfl (by kernel_rfl) (opd_tmp rfl) (opd_tmp rfl) rfl (by assumption)))
          (.cons rfl (by decide) (.plain rfl (op_load rfl (by kernel_rfl) (opd_tmp rfl)))
          .nil)))))
          (.cons (s := 0) rfl trivial (.cons (s := 1) rfl trivial (.cons (s := 2) rfl trivial (.cons (s := 3) rfl trivial (.cons (s := 4) rfl trivial (.cons (s := 7) rfl trivial (.cons (s := 8) rfl trivial (.cons (s := 9) rfl trivial (.cons (s := 31) rfl trivial (.cons (s := 34) rfl trivial (.cons (s := 38) rfl trivial .nil))))))))))) (fun a11 w11 e11 st11 => ?_)
        refine wpl_take (l := [.tmp 38]) (st11) rfl rfl rfl (by decide) (by kernel_rfl) rfl (.cons (opd_tmp rfl) .nil) (spec_insertText_ok _ _ (by omega)) (.cons (s := 0) rfl (fun _ _ h => h) (.cons (s := 1) rfl (fun _ _ h => h) (.cons (s := 2) rfl (fun _ _ h => h) (.cons (s := 3) rfl (fun _ _ h => h) (.cons (s := 4) rfl (fun _ _ h => h) (.cons (s := 8) rfl (fun _ _ h => h) (.cons (s := 9) rfl (fun _ _ h => h) (.cons (s := 31) rfl (fun _ _ h => h) .nil)))))))) (hg9) (fun g12 a12 w12 hg12 st12 => ?_)
        refine seg_n 1 st12 (.cons rfl (by decide) (.plain rfl (op_assign rfl (opd_tmp rfl)))
          .nil)
          (.cons (s := 0) rfl trivial (.cons (s := 1) rfl trivial (.cons (s := 2) rfl trivial (.cons (s := 3) rfl trivial (.cons (s := 4) rfl trivial (.cons (s := 7) rfl trivial (.cons (s := 8) rfl trivial (.cons (s := 9) rfl trivial (.cons (s := 31) rfl trivial .nil))))))))) (fun a13 w13 e13 st13 => ?_)
        refine wpList_nil ?_
        refine blk_normal ?_
        refine then_normal ?_
        refine region_seg st13 (.cons rfl (by decide) (.plain rfl (op_move rfl (opd_tmp rfl)))
          (.cons rfl (by decide) (.plain rfl (op_arI rfl (by decide) (opd_tmp rfl) opd_int (by simp only [arI]; omega)))
          (.cons rfl (by decide) (.plain rfl (op_assign rfl (opd_tmp rfl)))
          .nil)))
          (.cons (s := 0) rfl trivial (.cons (s := 1) rfl trivial (.cons (s := 2) rfl trivial (.cons (s := 3) rfl trivial (.cons (s := 4) rfl trivial (.cons (s := 7) rfl trivial (.cons (s := 8) rfl trivial (.cons (s := 9) rfl trivial (.cons (s := 31) rfl trivial .nil))))))))) (fun a14 w14 e14 st14 => ?_)
        refine then_normal ⟨k+1, ⟨g12, hg12, ?_, by omega, by rw [foldl_next hx]; have := insertT_len (((names u).take k).foldl insertT (names t)) x; omega⟩, by omega⟩
        rw [foldl_next hx]
        exact st14.pick (.cons (s := 0) rfl trivial (.cons (s := 1) rfl trivial (.cons (s := 2) rfl trivial (.cons (s := 3) rfl trivial (.cons (s := 4) rfl trivial (.cons (s := 7) rfl trivial (.cons (s := 8) rfl trivial (.cons (s := 9) rfl trivial .nil))))))))
      ·
        have hend := end_of h2
        rw [show ((names u).take k).foldl insertT (names t) = bothNames t u from foldl_end hend] at st10 hl
        have hbl : (bothNames t u).length ≤ 8795455488000 := by omega
        refine wp_exit (thn_exit (thn_exit (exit_here ?_)))
        refine then_normal ?_
        refine wp_seq ?_
        refine wp_seq ?_
        refine region_seg st10 (.cons rfl (by decide) (.plain rfl (op_assign rfl opd_int))
          .nil)
          (.cons (s := 0) rfl trivial (.cons (s := 1) rfl trivial (.cons (s := 2) rfl trivial (.cons (s := 3) rfl trivial (.cons (s := 4) rfl trivial (.cons (s := 7) rfl trivial (.cons (s := 8) rfl trivial (.cons (s := 9) rfl trivial (.cons (s := 10) rfl trivial (.cons (s := 31) rfl trivial .nil)))))))))) (fun a15 w15 e15 st15 => ?_)
        refine then_normal ?_
        refine wp_block ?_
        refine loop_st (ι := Nat) (fun k a w => ∃ g, TipOK (Frm.of w0) M g ∧ St (Frm.of w0) 64 (insO g M) [(0, dt t), (1, dt u), (2, dt path), (3, dptr t), (4, dptr u), (7, dtip g 9 (bothNames t u)), (10, dt (k : Int))] a w ∧ k ≤ (bothNames t u).length ∧ ((bothNames t u).take k).all (sameAt t u path) = true) (fun k => (bothNames t u).length - k) 0 ?_ ?_
        ·
          exact ⟨g9, hg9, st15.pick (.cons (s := 0) rfl trivial (.cons (s := 1) rfl trivial (.cons (s := 2) rfl trivial (.cons (s := 3) rfl trivial (.cons (s := 4) rfl trivial (.cons (s := 7) rfl trivial (.cons (s := 10) rfl trivial .nil))))))), Nat.zero_le _, rfl⟩
        ·
          rintro k a16 w16 ⟨g16, hg16, st16, hk, hp⟩
          refine wp_seq ?_
          refine wp_seq ?_
          refine region_seg st16 (.cons rfl (by decide) (.plain rfl (op_move rfl (opd_tmp rfl)))
            (.cons rfl (by decide) (.plain rfl (op_move rfl (opd_tmp rfl)))
            (.cons rfl (by decide) (.plain rfl (op_lenT rfl (by kernel_rfl) (opd_tmp rfl)))
            (.cons rfl (by decide) (.plain rfl (op_cmpI rfl (by decide) (opd_tmp rfl) (opd_tmp rfl)))
            .nil))))
            (.cons (s := 0) rfl trivial (.cons (s := 1) rfl trivial (.cons (s := 2) rfl trivial (.cons (s := 3) rfl trivial (.cons (s := 4) rfl trivial (.cons (s := 7) rfl trivial (.cons (s := 10) rfl trivial (.cons (s := 43) rfl trivial .nil)))))))) (fun a17 w17 e17 st17 => ?_)
          refine then_normal ?_
          refine cond_split (c := 43) st17 rfl (fun h3 => ?_) (fun h3 => ?_)
          ·
            obtain ⟨x, hx⟩ := idx_of h3
            have hlt := lt_of_get hx
            have hmx := both_mid ht hu _ (List.mem_of_getElem? hx)
            refine wp_skip ?_
            refine then_normal ?_
            refine wp_seq ?_
            refine wp_block ?_
            refine wp_seq ?_
            refine region_any Tryz_mixed [[], [], [], [], [], [3, 4], [3, 4, 5], [1, 2, 3, 4, 5, 6], [], [], [], [], [], [11, 12], [11, 12, 13], [1, 2, 3, 4, 5, 6, 7, 9, 10, 11, 12, 13, 14], [0, 1, 2, 3, 4, 5, 6, 7, 8, 9, 10, 11, 12, 13, 14, 15], [0, 1, 2, 3, 4, 5, 6, 7, 8, 9, 10, 11, 12, 13, 14, 15, 16]] [[(3, none)], [(3, none)], [(2, none)], [(7, none)], [(10, none)], [(49, some 3), (50, some 4)], [(51, some 5)], [(47, some 1), (48, some 2), (52, some 6)], [(4, none)], [(4, none)], [(2, none)], [(7, none)], [(10, none)], [(57, some 11), (58, some 12)], [(59, some 13)], [(55, some 9), (56, some 10), (60, some 14)], [(46, some 0), (53, some 7), (54, some 8), (61, some 15)], [(62, some 16)]] (by decide +kernel) st17 (D := [_, _, _, _, _, _, _, _, _, _, _, _, _, _, _, _, _, _])
              (.cons rfl (by decide) rfl (.plain rfl (op_load rfl (by kernel_rfl) (opd_tmp rfl)))
              (.cons rfl (by decide) rfl (.plain rfl (op_load rfl (by kernel_rfl) (opd_tmp rfl)))
              (.cons rfl (by decide) rfl (.plain rfl (op_move rfl (opd_tmp rfl)))
              (.cons rfl (by decide) rfl (.plain rfl (op_move rfl (opd_tmp rfl)))
              (.cons rfl (by decide) rfl (.plain rfl (op_move rfl (opd_tmp rfl)))
              (.cons rfl (by decide) rfl (.plain rfl (op_indexTipE rfl (by kernel_rfl) (opd_tmp rfl) (opd_tmp rfl) rfl (by assumption)))
              (.cons rfl (by decide) rfl (.plain rfl (op_loadBox rfl (by kernel_rfl) (opd_tmp rfl)))
              (.cons rfl (by decide) rfl (.plain rfl (op_call (l := [.tmp 47, .tmp 48, .tmp 52]) rfl (by kernel_rfl) (.cons (opd_tmp rfl) (.cons (opd_tmp rfl) (.cons (opd_tmp rfl) .nil))) (spec_find_ok _ _ _ hpl hmx)))
              (.cons rfl (by decide) rfl (.plain rfl (op_load rfl (by kernel_rfl) (opd_tmp rfl)))
              (.cons rfl (by decide) rfl (.plain rfl (op_load rfl (by kernel_rfl) (opd_tmp rfl)))
              (.cons rfl (by decide) rfl (.plain rfl (op_move rfl (opd_tmp rfl)))
              (.cons rfl (by decide) rfl (.plain rfl (op_move rfl (opd_tmp rfl)))
              (.cons rfl (by decide) rfl (.plain rfl (op_move rfl (opd_tmp rfl)))
              (.cons rfl (by decide) rfl (.plain rfl (op_indexTipE rfl (by kernel_rfl) (opd_tmp rfl) (opd_tmp rfl) rfl (by assumption)))
              (.cons rfl (by decide) rfl (.plain rfl (op_loadBox rfl (by kernel_rfl) (opd_tmp rfl)))
              (.cons rfl (by decide) rfl (.plain rfl (op_call (l := [.tmp 55, .tmp 56, .tmp 60]) rfl (by kernel_rfl) (.cons (opd_tmp rfl) (.cons (opd_tmp rfl) (.cons (opd_tmp rfl) .nil))) (spec_find_ok _ _ _ hpl hmx)))
              (.cons rfl (by decide) rfl (.plain rfl (op_call (l := [.tmp 46, .tmp 53, .tmp 54, .tmp 61]) rfl (by kernel_rfl) (.cons (opd_tmp rfl) (.cons (opd_tmp rfl) (.cons (opd_tmp rfl) (.cons (opd_tmp rfl) .nil)))) (spec_sameSpec_ok _ _ _ _ (find_file _ _ _) (find_file _ _ _))))
              (.cons rfl (by decide) rfl (.plain rfl (op_not rfl (opd_tmp rfl)))
              .nil))))))))))))))))))
              (.cons (s := 0) rfl trivial (.cons (s := 1) rfl trivial (.cons (s := 2) rfl trivial (.cons (s := 3) rfl trivial (.cons (s := 4) rfl trivial (.cons (s := 7) rfl trivial (.cons (s := 10) rfl trivial (.cons (s := 43) rfl trivial (.cons (s := 63) rfl trivial .nil))))))))) (fun a18 w18 e18 st18 => ?_)
            refine then_normal ?_
            refine cond_split (c := 63) st18 rfl (fun h4 => ?_) (fun h4 => ?_)
            ·
              have q1 := h4
              refine wp_seq ?_
              refine region_seg st18 (.cons rfl (by decide) (.plain rfl (op_assign rfl opd_bool))
                .nil)
                (.cons (s := 0) rfl trivial (.cons (s := 1) rfl trivial (.cons (s := 2) rfl trivial (.cons (s := 3) rfl trivial (.cons (s := 4) rfl trivial (.cons (s := 6) rfl trivial (.cons (s := 7) rfl trivial (.cons (s := 10) rfl trivial (.cons (s := 43) rfl trivial (.cons (s := 63) rfl trivial .nil)))))))))) (fun a19 w19 e19 st19 => ?_)
              refine then_normal ?_
              refine wp_ret (blk_ret (thn_ret (thn_ret (blk_ret (thn_ret ?_)))))
              refine ret_dtM rfl (fun _ h => (.inl h)) st19 (t := 6) rfl ?_
              rw [sameFinds, if_neg (by rw [q0]; decide), all_fail hx (by simpa [sameAt] using q1)]
            ·
              have q1 := h4
              refine wp_skip ?_
              refine blk_normal ?_
              refine then_normal ?_
              refine region_seg st18 (.cons rfl (by decide) (.plain rfl (op_move rfl (opd_tmp rfl)))
                (.cons rfl (by decide) (.plain rfl (op_arI rfl (by decide) (opd_tmp rfl) opd_int (by simp only [arI]; omega)))
                (.cons rfl (by decide) (.plain rfl (op_assign rfl (opd_tmp rfl)))
                .nil)))
                (.cons (s := 0) rfl trivial (.cons (s := 1) rfl trivial (.cons (s := 2) rfl trivial (.cons (s := 3) rfl trivial (.cons (s := 4) rfl trivial (.cons (s := 7) rfl trivial (.cons (s := 10) rfl trivial (.cons (s := 43) rfl trivial (.cons (s := 63) rfl trivial .nil))))))))) (fun a20 w20 e20 st20 => ?_)
              refine then_normal ⟨k+1, ⟨g16, hg16, st20.pick (.cons (s := 0) rfl trivial (.cons (s := 1) rfl trivial (.cons (s := 2) rfl trivial (.cons (s := 3) rfl trivial (.cons (s := 4) rfl trivial (.cons (s := 7) rfl trivial (.cons (s := 10) rfl trivial .nil))))))), by omega, all_next hx hp (by simpa [sameAt] using q1)⟩, by omega⟩
          ·
            have hend := end_of h3
            refine wp_exit (thn_exit (thn_exit (exit_here ?_)))
            refine then_normal ?_
            refine wp_seq ?_
            refine region_seg st17 (.cons rfl (by decide) (.plain rfl (op_assign rfl opd_bool))
              .nil)
              (.cons (s := 0) rfl trivial (.cons (s := 1) rfl trivial (.cons (s := 2) rfl trivial (.cons (s := 3) rfl trivial (.cons (s := 4) rfl trivial (.cons (s := 6) rfl trivial (.cons (s := 7) rfl trivial (.cons (s := 10) rfl trivial (.cons (s := 43) rfl trivial .nil))))))))) (fun a21 w21 e21 st21 => ?_)
            refine then_normal ?_
            refine wp_ret ?_
            refine ret_dtM rfl (fun _ h => (.inl h)) st21 (t := 6) rfl ?_
            rw [sameFinds, if_neg (by rw [q0]; decide), all_end hend hp]

end Go.Proofs.YtionokffhhiicaaGreatDoor

namespace Go.Proofs.YtionokffhhiicaaGreatDoor
open Go.RowKit
set_option maxRecDepth 10000

theorem impl_within_ok (n lo up : Int) : Fn Tryz.prog 75 [dt n, dt lo, dt up] (dt (inR n lo up)) := by
  refine fn_of_wp (fn := Tryz.f75) Tryz.func75 rfl (of_decide_eq_true rfl) (fun M w0 a0 hm st0 => ?_)
  refine wp_seq ?_
  refine region_seg st0 (.cons rfl (by decide) (.plain rfl (op_assign rfl opd_bool))
    .nil)
    (.cons (s := 0) rfl trivial (.cons (s := 1) rfl trivial (.cons (s := 2) rfl trivial (.cons (s := 6) rfl trivial .nil)))) (fun a1 w1 e1 st1 => ?_)
  refine then_normal ?_
  refine wp_seq ?_
  refine region_seg st1 (.cons rfl (by decide) (.plain rfl (op_move rfl (opd_tmp rfl)))
    (.cons rfl (by decide) (.plain rfl (op_move rfl (opd_tmp rfl)))
    (.cons rfl (by decide) (.plain rfl (op_cmpI rfl (by decide) (opd_tmp rfl) (opd_tmp rfl)))
    (.cons rfl (by decide) (.plain rfl (op_move rfl (opd_tmp rfl)))
    (.cons rfl (by decide) (.guarded rfl rfl (by decide) rfl dt_bv (fun hg => op_move rfl (opd_tmp rfl)))
    (.cons rfl (by decide) (.guarded rfl rfl (by decide) rfl dt_bv (fun hg => op_move rfl (opd_tmp rfl)))
    (.cons rfl (by decide) (.guarded rfl rfl (by decide) rfl dt_bv (fun hg => op_cmpI rfl (by decide) (opd_g hg rfl) (opd_g hg rfl)))
    (.cons rfl (by decide) (.plain rfl (op_and rfl (opd_tmp rfl) (opd_tmp rfl)))
    (.cons rfl (by decide) (.plain rfl (op_assign rfl (opd_tmp rfl)))
    .nil)))))))))
    (.cons (s := 0) rfl trivial (.cons (s := 1) rfl trivial (.cons (s := 2) rfl trivial (.cons (s := 6) rfl trivial .nil)))) (fun a2 w2 e2 st2 => ?_)
  refine then_normal ?_
  refine wp_ret ?_
  refine ret_dtM rfl (fun _ h => h) st2 (t := 6) rfl ?_
  simp [inR, cmpI]

theorem impl_ValidPart_ok (s : Str) : Fn Tryz.prog 132 [dt s] (dt (validPart s)) := by
  refine fn_of_wp (fn := Tryz.f132) Tryz.func132 rfl (of_decide_eq_true rfl) (fun M w0 a0 hm st0 => ?_)
  have hlen : s.l.length ≤ 9223372036854775807 := st0.lenS (s := 0) rfl
  refine wp_seq ?_
  refine region_seg st0 (.cons rfl (by decide) (.plain rfl (op_assign rfl opd_bool))
    .nil)
    (.cons (s := 0) rfl trivial (.cons (s := 2) rfl trivial .nil)) (fun a1 w1 e1 st1 => ?_)
  refine then_normal ?_
  refine wp_seq ?_
  refine wp_seq ?_
  refine region_seg st1 (.cons rfl (by decide) (.plain rfl (op_move rfl (opd_tmp rfl)))
    (.cons rfl (by decide) (.plain rfl (op_lenS rfl (by kernel_rfl) (opd_tmp rfl)))
    (.cons rfl (by decide) (.plain rfl (op_move rfl opd_int))
    .nil)))
    (.cons (s := 0) rfl trivial (.cons (s := 2) rfl trivial (.cons (s := 5) rfl trivial (.cons (s := 6) rfl trivial .nil)))) (fun a2 w2 e2 st2 => ?_)
  refine then_normal ?_
  refine wp_block ?_
  refine loop_st (ι := Nat) (fun k a w => St (Frm.of w0) 23 M [(0, dt s), (5, dt (s.l.length : Int)), (6, dt (k : Int))] a w ∧ k ≤ s.l.length ∧ (s.l.take k).all low = true) (fun k => s.l.length - k) 0 ?_ ?_
  ·
    exact ⟨st2.pick (.cons (s := 0) rfl trivial (.cons (s := 5) rfl trivial (.cons (s := 6) rfl trivial .nil))), Nat.zero_le _, by simp⟩
  ·
    rintro k a3 w3 ⟨st3, hk, hp⟩
    refine wp_seq ?_
    refine region_seg st3 (.cons rfl (by decide) (.plain rfl (op_cmpI rfl (by decide) (opd_tmp rfl) (opd_tmp rfl)))
      .nil)
      (.cons (s := 0) rfl trivial (.cons (s := 5) rfl trivial (.cons (s := 6) rfl trivial (.cons (s := 7) rfl trivial .nil)))) (fun a4 w4 e4 st4 => ?_)
    refine then_normal ?_
    refine wp_seq ?_
    refine cond_split (c := 7) st4 rfl (fun h1 => ?_) (fun h1 => ?_)
    ·
      obtain ⟨x, hx⟩ := idxS_of h1
      have hlt := lt_of_get hx
      refine wp_skip ?_
      refine then_normal ?_
      refine wp_seq ?_
      refine wp_block ?_
      refine wp_seq ?_
      refine region_seg st4 (.cons rfl (by decide) (.plain rfl (op_move rfl (opd_tmp rfl)))
        (.cons rfl (by decide) (.plain rfl (op_assign rfl (opd_tmp rfl)))
        .nil))
        (.cons (s := 0) rfl trivial (.cons (s := 3) rfl trivial (.cons (s := 5) rfl trivial (.cons (s := 6) rfl trivial (.cons (s := 7) rfl trivial .nil))))) (fun a5 w5 e5 st5 => ?_)
      refine then_normal ?_
      refine wp_seq ?_
      refine region_seg st5 (.cons rfl (by decide) (.plain rfl (op_move rfl (opd_tmp rfl)))
        (.cons rfl (by decide) (.plain rfl (op_move rfl (opd_tmp rfl)))
        (.cons rfl (by decide) (.plain rfl (op_byte rfl (by kernel_rfl) (opd_tmp rfl) (opd_tmp rfl) (by assumption)))
        (.cons rfl (by decide) (.plain rfl (op_cmpB rfl (by decide) (opd_tmp rfl) (opd_u8 (by decide))))
        (.cons rfl (by decide) (.plain rfl (op_move rfl (opd_tmp rfl)))
        (.cons rfl (by decide) (.guarded rfl rfl (by decide) rfl dt_bv (fun hg => op_move rfl (opd_tmp rfl)))
        (.cons rfl (by decide) (.guarded rfl rfl (by decide) rfl dt_bv (fun hg => op_move rfl (opd_tmp rfl)))
        (.cons rfl (by decide) (.guarded rfl rfl (by decide) rfl dt_bv (fun hg => op_byte rfl (by kernel_rfl) (opd_g hg rfl) (opd_g hg rfl) (by assumption)))
        (.cons rfl (by decide) (.guarded rfl rfl (by decide) rfl dt_bv (fun hg => op_cmpB rfl (by decide) (opd_g hg rfl) (opd_u8 (by decide))))
        (.cons rfl (by decide) (.plain rfl (op_or rfl (opd_tmp rfl) (opd_tmp rfl)))
        .nil))))))))))
        (.cons (s := 0) rfl trivial (.cons (s := 3) rfl trivial (.cons (s := 5) rfl trivial (.cons (s := 6) rfl trivial (.cons (s := 7) rfl trivial (.cons (s := 18) rfl trivial .nil)))))) (fun a6 w6 e6 st6 => ?_)
      refine then_normal ?_
      refine cond_split (c := 18) st6 rfl (fun h2 => ?_) (fun h2 => ?_)
      ·
        have ht := h2
        refine wp_seq ?_
        refine region_seg st6 (.cons rfl (by decide) (.plain rfl (op_assign rfl opd_bool))
          .nil)
          (.cons (s := 0) rfl trivial (.cons (s := 2) rfl trivial (.cons (s := 3) rfl trivial (.cons (s := 5) rfl trivial (.cons (s := 6) rfl trivial (.cons (s := 7) rfl trivial (.cons (s := 18) rfl trivial .nil))))))) (fun a7 w7 e7 st7 => ?_)
        refine then_normal ?_
        refine wp_ret (blk_ret (thn_ret (thn_ret (blk_ret (thn_ret ?_)))))
        refine ret_dtM rfl (fun _ h => h) st7 (t := 2) rfl ?_
        unfold validPart
        rw [all_fail (p := low) hx (by unfold low; rw [ht]; rfl), Bool.and_false]
      ·
        have hf := h2
        refine wp_skip ?_
        refine blk_normal ?_
        refine then_normal ?_
        refine region_seg st6 (.cons rfl (by decide) (.plain rfl (op_arI rfl (by decide) (opd_tmp rfl) opd_int (by simp only [arI]; omega)))
          (.cons rfl (by decide) (.plain rfl (op_move rfl (opd_tmp rfl)))
          .nil))
          (.cons (s := 0) rfl trivial (.cons (s := 3) rfl trivial (.cons (s := 5) rfl trivial (.cons (s := 6) rfl trivial (.cons (s := 7) rfl trivial (.cons (s := 18) rfl trivial .nil)))))) (fun a8 w8 e8 st8 => ?_)
        refine then_normal ⟨k+1, ⟨st8.pick (.cons (s := 0) rfl trivial (.cons (s := 5) rfl trivial (.cons (s := 6) rfl trivial .nil))), by omega, all_next hx hp (by unfold low; rw [hf]; rfl)⟩, by omega⟩
    ·
      have hend := endS_of h1
      refine wp_exit (thn_exit (thn_exit (exit_here ?_)))
      refine then_normal ?_
      refine wp_seq ?_
      refine region_seg st4 (.cons rfl (by decide) (.plain rfl (op_move rfl (opd_tmp rfl)))
        (.cons rfl (by decide) (.plain rfl (op_lenS rfl (by kernel_rfl) (opd_tmp rfl)))
        (.cons rfl (by decide) (.plain rfl (op_call (l := [.tmp 21, .const (.int .i64 1), .const (.int .i64 3)]) rfl (by kernel_rfl) (.cons (opd_tmp rfl) (.cons opd_int (.cons opd_int .nil))) (impl_within_ok _ _ _)))
        (.cons rfl (by decide) (.plain rfl (op_assign rfl (opd_tmp rfl)))
        .nil))))
        (.cons (s := 0) rfl trivial (.cons (s := 2) rfl trivial (.cons (s := 5) rfl trivial (.cons (s := 6) rfl trivial (.cons (s := 7) rfl trivial .nil))))) (fun a9 w9 e9 st9 => ?_)
      refine then_normal ?_
      refine wp_ret ?_
      refine ret_dtM rfl (fun _ h => h) st9 (t := 2) rfl ?_
      unfold validPart
      rw [all_end hend hp, Bool.and_true]

theorem slices_Index_int_int_ok (l : List Int) (x0 : Int) : Fn Tryz.prog 134 [dt l, dt x0] (dt (idxOf (fun x => x0 == x) l)) := by
  refine fn_of_wp (fn := Tryz.f134) Tryz.func134 rfl (of_decide_eq_true rfl) (fun M w0 a0 hm st0 => ?_)
  have hlen := st0.lenL (s := 0) rfl
  refine wp_seq ?_
  refine region_seg st0 (.cons rfl (by decide) (.plain rfl (op_assign rfl opd_int))
    .nil)
    (.cons (s := 0) rfl trivial (.cons (s := 1) rfl trivial (.cons (s := 4) rfl trivial .nil))) (fun a1 w1 e1 st1 => ?_)
  refine then_normal ?_
  refine wp_seq ?_
  refine wp_seq ?_
  refine region_seg st1 (.cons rfl (by decide) (.plain rfl (op_move rfl (opd_tmp rfl)))
    (.cons rfl (by decide) (.plain rfl (op_lenL rfl (by kernel_rfl) (opd_tmp rfl)))
    (.cons rfl (by decide) (.plain rfl (op_move rfl opd_int))
    .nil)))
    (.cons (s := 0) rfl trivial (.cons (s := 1) rfl trivial (.cons (s := 4) rfl trivial (.cons (s := 7) rfl trivial (.cons (s := 8) rfl trivial .nil))))) (fun a2 w2 e2 st2 => ?_)
  refine then_normal ?_
  refine wp_block ?_
  refine loop_st (ι := Nat) (fun k a w => St (Frm.of w0) 19 M [(0, dt l), (1, dt x0), (7, dt (l.length : Int)), (8, dt (k : Int))] a w ∧ k ≤ l.length ∧ (l.take k).any (fun x => x0 == x) = false) (fun k => l.length - k) 0 ?_ ?_
  ·
    exact ⟨st2.pick (.cons (s := 0) rfl trivial (.cons (s := 1) rfl trivial (.cons (s := 7) rfl trivial (.cons (s := 8) rfl trivial .nil)))), Nat.zero_le _, by simp⟩
  ·
    rintro k a3 w3 ⟨st3, hk, hp⟩
    refine wp_seq ?_
    refine region_seg st3 (.cons rfl (by decide) (.plain rfl (op_cmpI rfl (by decide) (opd_tmp rfl) (opd_tmp rfl)))
      .nil)
      (.cons (s := 0) rfl trivial (.cons (s := 1) rfl trivial (.cons (s := 7) rfl trivial (.cons (s := 8) rfl trivial (.cons (s := 9) rfl trivial .nil))))) (fun a4 w4 e4 st4 => ?_)
    refine then_normal ?_
    refine wp_seq ?_
    refine cond_split (c := 9) st4 rfl (fun h1 => ?_) (fun h1 => ?_)
    ·
      obtain ⟨x, hx⟩ := idx_of h1
      have hlt := lt_of_get hx
      refine wp_skip ?_
      refine then_normal ?_
      refine wp_seq ?_
      refine wp_block ?_
      refine wp_seq ?_
      refine region_seg st4 (.cons rfl (by decide) (.plain rfl (op_move rfl (opd_tmp rfl)))
        (.cons rfl (by decide) (.plain rfl (op_assign rfl (opd_tmp rfl)))
        .nil))
        (.cons (s := 0) rfl trivial (.cons (s := 1) rfl trivial (.cons (s := 5) rfl trivial (.cons (s := 7) rfl trivial (.cons (s := 8) rfl trivial (.cons (s := 9) rfl trivial .nil)))))) (fun a5 w5 e5 st5 => ?_)
      refine then_normal ?_
      refine wp_seq ?_
      refine region_seg st5 (.cons rfl (by decide) (.plain rfl (op_move rfl (opd_tmp rfl)))
        (.cons rfl (by decide) (.plain rfl (op_move rfl (opd_tmp rfl)))
        (.cons rfl (by decide) (.plain rfl (op_move rfl (opd_tmp rfl)))
        (.cons rfl (by decide) (.plain rfl (op_indexE rfl (by kernel_rfl) (opd_tmp rfl) (opd_tmp rfl) rfl (by assumption)))
        (.cons rfl (by decide) (.plain rfl (op_load rfl (by kernel_rfl) (opd_tmp rfl)))
        (.cons rfl (by decide) (.plain rfl (op_cmpI rfl (by decide) (opd_tmp rfl) (opd_tmp rfl)))
        .nil))))))
        (.cons (s := 0) rfl trivial (.cons (s := 1) rfl trivial (.cons (s := 5) rfl trivial (.cons (s := 7) rfl trivial (.cons (s := 8) rfl trivial (.cons (s := 9) rfl trivial (.cons (s := 16) rfl trivial .nil))))))) (fun a6 w6 e6 st6 => ?_)
      refine then_normal ?_
      refine cond_split (c := 16) st6 rfl (fun h2 => ?_) (fun h2 => ?_)
      ·
        have ht := h2
        refine wp_seq ?_
        refine region_seg st6 (.cons rfl (by decide) (.plain rfl (op_move rfl (opd_tmp rfl)))
          (.cons rfl (by decide) (.plain rfl (op_assign rfl (opd_tmp rfl)))
          .nil))
          (.cons (s := 0) rfl trivial (.cons (s := 1) rfl trivial (.cons (s := 4) rfl trivial (.cons (s := 5) rfl trivial (.cons (s := 7) rfl trivial (.cons (s := 8) rfl trivial (.cons (s := 9) rfl trivial (.cons (s := 16) rfl trivial .nil)))))))) (fun a7 w7 e7 st7 => ?_)
        refine then_normal ?_
        refine wp_ret (blk_ret (thn_ret (thn_ret (blk_ret (thn_ret ?_)))))
        refine ret_dtM rfl (fun _ h => h) st7 (t := 4) rfl ?_
        exact (idx_hit hp hx ht).symm
      ·
        have hf := h2
        refine wp_skip ?_
        refine blk_normal ?_
        refine then_normal ?_
        refine region_seg st6 (.cons rfl (by decide) (.plain rfl (op_arI rfl (by decide) (opd_tmp rfl) opd_int (by simp only [arI]; omega)))
          (.cons rfl (by decide) (.plain rfl (op_move rfl (opd_tmp rfl)))
          .nil))
          (.cons (s := 0) rfl trivial (.cons (s := 1) rfl trivial (.cons (s := 5) rfl trivial (.cons (s := 7) rfl trivial (.cons (s := 8) rfl trivial (.cons (s := 9) rfl trivial (.cons (s := 16) rfl trivial .nil))))))) (fun a8 w8 e8 st8 => ?_)
        refine then_normal ⟨k+1, ⟨st8.pick (.cons (s := 0) rfl trivial (.cons (s := 1) rfl trivial (.cons (s := 7) rfl trivial (.cons (s := 8) rfl trivial .nil)))), by omega, any_next hx hp hf⟩, by omega⟩
    ·
      have hend := end_of h1
      refine wp_exit (thn_exit (thn_exit (exit_here ?_)))
      refine then_normal ?_
      refine wp_seq ?_
      refine region_seg st4 (.cons rfl (by decide) (.plain rfl (op_assign rfl opd_int))
        .nil)
        (.cons (s := 0) rfl trivial (.cons (s := 1) rfl trivial (.cons (s := 4) rfl trivial (.cons (s := 7) rfl trivial (.cons (s := 8) rfl trivial (.cons (s := 9) rfl trivial .nil)))))) (fun a9 w9 e9 st9 => ?_)
      refine then_normal ?_
      refine wp_ret ?_
      refine ret_dtM rfl (fun _ h => h) st9 (t := 4) rfl ?_
      exact (idx_end hend hp).symm

theorem slices_Index_string_string_ok (l : List Str) (x0 : Str) : Fn Tryz.prog 205 [dt l, dt x0] (dt (idxOf (fun x => decide (x0 = x)) l)) := by
  refine fn_of_wp (fn := Tryz.f205) Tryz.func205 rfl (of_decide_eq_true rfl) (fun M w0 a0 hm st0 => ?_)
  have hlen := st0.lenL (s := 0) rfl
  refine wp_seq ?_
  refine region_seg st0 (.cons rfl (by decide) (.plain rfl (op_assign rfl opd_int))
    .nil)
    (.cons (s := 0) rfl trivial (.cons (s := 1) rfl trivial (.cons (s := 4) rfl trivial .nil))) (fun a1 w1 e1 st1 => ?_)
  refine then_normal ?_
  refine wp_seq ?_
  refine wp_seq ?_
  refine region_seg st1 (.cons rfl (by decide) (.plain rfl (op_move rfl (opd_tmp rfl)))
    (.cons rfl (by decide) (.plain rfl (op_lenL rfl (by kernel_rfl) (opd_tmp rfl)))
    (.cons rfl (by decide) (.plain rfl (op_move rfl opd_int))
    .nil)))
    (.cons (s := 0) rfl trivial (.cons (s := 1) rfl trivial (.cons (s := 4) rfl trivial (.cons (s := 7) rfl trivial (.cons (s := 8) rfl trivial .nil))))) (fun a2 w2 e2 st2 => ?_)
  refine then_normal ?_
  refine wp_block ?_
  refine loop_st (ι := Nat) (fun k a w => St (Frm.of w0) 19 M [(0, dt l), (1, dt x0), (7, dt (l.length : Int)), (8, dt (k : Int))] a w ∧ k ≤ l.length ∧ (l.take k).any (fun x => decide (x0 = x)) = false) (fun k => l.length - k) 0 ?_ ?_
  ·
    exact ⟨st2.pick (.cons (s := 0) rfl trivial (.cons (s := 1) rfl trivial (.cons (s := 7) rfl trivial (.cons (s := 8) rfl trivial .nil)))), Nat.zero_le _, by simp⟩
  ·
    rintro k a3 w3 ⟨st3, hk, hp⟩
    refine wp_seq ?_
    refine region_seg st3 (.cons rfl (by decide) (.plain rfl (op_cmpI rfl (by decide) (opd_tmp rfl) (opd_tmp rfl)))
      .nil)
      (.cons (s := 0) rfl trivial (.cons (s := 1) rfl trivial (.cons (s := 7) rfl trivial (.cons (s := 8) rfl trivial (.cons (s := 9) rfl trivial .nil))))) (fun a4 w4 e4 st4 => ?_)
    refine then_normal ?_
    refine wp_seq ?_
    refine cond_split (c := 9) st4 rfl (fun h1 => ?_) (fun h1 => ?_)
    ·
      obtain ⟨x, hx⟩ := idx_of h1
      have hlt := lt_of_get hx
      refine wp_skip ?_
      refine then_normal ?_
      refine wp_seq ?_
      refine wp_block ?_
      refine wp_seq ?_
      refine region_seg st4 (.cons rfl (by decide) (.plain rfl (op_move rfl (opd_tmp rfl)))
        (.cons rfl (by decide) (.plain rfl (op_assign rfl (opd_tmp rfl)))
        .nil))
        (.cons (s := 0) rfl trivial (.cons (s := 1) rfl trivial (.cons (s := 5) rfl trivial (.cons (s := 7) rfl trivial (.cons (s := 8) rfl trivial (.cons (s := 9) rfl trivial .nil)))))) (fun a5 w5 e5 st5 => ?_)
      refine then_normal ?_
      refine wp_seq ?_
      refine region_seg st5 (.cons rfl (by decide) (.plain rfl (op_move rfl (opd_tmp rfl)))
        (.cons rfl (by decide) (.plain rfl (op_move rfl (opd_tmp rfl)))
        (.cons rfl (by decide) (.plain rfl (op_move rfl (opd_tmp rfl)))
        (.cons rfl (by decide) (.plain rfl (op_indexE rfl (by kernel_rfl) (opd_tmp rfl) (opd_tmp rfl) rfl (by assumption)))
        (.cons rfl (by decide) (.plain rfl (op_load rfl (by kernel_rfl) (opd_tmp rfl)))
        (.cons rfl (by decide) (.plain rfl (op_eqS rfl (opd_tmp rfl) (opd_tmp rfl)))
        .nil))))))
        (.cons (s := 0) rfl trivial (.cons (s := 1) rfl trivial (.cons (s := 5) rfl trivial (.cons (s := 7) rfl trivial (.cons (s := 8) rfl trivial (.cons (s := 9) rfl trivial (.cons (s := 16) rfl trivial .nil))))))) (fun a6 w6 e6 st6 => ?_)
      refine then_normal ?_
      refine cond_split (c := 16) st6 rfl (fun h2 => ?_) (fun h2 => ?_)
      ·
        have ht := h2
        refine wp_seq ?_
        refine region_seg st6 (.cons rfl (by decide) (.plain rfl (op_move rfl (opd_tmp rfl)))
          (.cons rfl (by decide) (.plain rfl (op_assign rfl (opd_tmp rfl)))
          .nil))
          (.cons (s := 0) rfl trivial (.cons (s := 1) rfl trivial (.cons (s := 4) rfl trivial (.cons (s := 5) rfl trivial (.cons (s := 7) rfl trivial (.cons (s := 8) rfl trivial (.cons (s := 9) rfl trivial (.cons (s := 16) rfl trivial .nil)))))))) (fun a7 w7 e7 st7 => ?_)
        refine then_normal ?_
        refine wp_ret (blk_ret (thn_ret (thn_ret (blk_ret (thn_ret ?_)))))
        refine ret_dtM rfl (fun _ h => h) st7 (t := 4) rfl ?_
        exact (idx_hit hp hx ht).symm
      ·
        have hf := h2
        refine wp_skip ?_
        refine blk_normal ?_
        refine then_normal ?_
        refine region_seg st6 (.cons rfl (by decide) (.plain rfl (op_arI rfl (by decide) (opd_tmp rfl) opd_int (by simp only [arI]; omega)))
          (.cons rfl (by decide) (.plain rfl (op_move rfl (opd_tmp rfl)))
          .nil))
          (.cons (s := 0) rfl trivial (.cons (s := 1) rfl trivial (.cons (s := 5) rfl trivial (.cons (s := 7) rfl trivial (.cons (s := 8) rfl trivial (.cons (s := 9) rfl trivial (.cons (s := 16) rfl trivial .nil))))))) (fun a8 w8 e8 st8 => ?_)
        refine then_normal ⟨k+1, ⟨st8.pick (.cons (s := 0) rfl trivial (.cons (s := 1) rfl trivial (.cons (s := 7) rfl trivial (.cons (s := 8) rfl trivial .nil)))), by omega, any_next hx hp hf⟩, by omega⟩
    ·
      have hend := end_of h1
      refine wp_exit (thn_exit (thn_exit (exit_here ?_)))
      refine then_normal ?_
      refine wp_seq ?_
      refine region_seg st4 (.cons rfl (by decide) (.plain rfl (op_assign rfl opd_int))
        .nil)
        (.cons (s := 0) rfl trivial (.cons (s := 1) rfl trivial (.cons (s := 4) rfl trivial (.cons (s := 7) rfl trivial (.cons (s := 8) rfl trivial (.cons (s := 9) rfl trivial .nil)))))) (fun a9 w9 e9 st9 => ?_)
      refine then_normal ?_
      refine wp_ret ?_
      refine ret_dtM rfl (fun _ h => h) st9 (t := 4) rfl ?_
      exact (idx_end hend hp).symm

theorem slices_Contains_int_int_ok (l : List Int) (x0 : Int) : Fn Tryz.prog 86 [dt l, dt x0] (dt (cmpI .geq (idxOf (fun x => x0 == x) l) 0)) := by
  refine fn_of_wp (fn := Tryz.f86) Tryz.func86 rfl (of_decide_eq_true rfl) (fun M w0 a0 hm st0 => ?_)
  refine wp_seq ?_
  refine region_seg st0 (.cons rfl (by decide) (.plain rfl (op_assign rfl opd_bool))
    .nil)
    (.cons (s := 0) rfl trivial (.cons (s := 1) rfl trivial (.cons (s := 4) rfl trivial .nil))) (fun a1 w1 e1 st1 => ?_)
  refine then_normal ?_
  refine wp_seq ?_
  refine region_seg st1 (.cons rfl (by decide) (.plain rfl (op_move rfl (opd_tmp rfl)))
    (.cons rfl (by decide) (.plain rfl (op_move rfl (opd_tmp rfl)))
    (.cons rfl (by decide) (.plain rfl (op_call (l := [.tmp 5, .tmp 6]) rfl (by kernel_rfl) (.cons (opd_tmp rfl) (.cons (opd_tmp rfl) .nil)) (slices_Index_int_int_ok _ _)))
    (.cons rfl (by decide) (.plain rfl (op_cmpI rfl (by decide) (opd_tmp rfl) opd_int))
    (.cons rfl (by decide) (.plain rfl (op_assign rfl (opd_tmp rfl)))
    .nil)))))
    (.cons (s := 0) rfl trivial (.cons (s := 1) rfl trivial (.cons (s := 4) rfl trivial .nil))) (fun a2 w2 e2 st2 => ?_)
  refine then_normal ?_
  refine wp_ret ?_
  refine ret_dtM rfl (fun _ h => h) st2 (t := 4) rfl ?_
  rfl

theorem slices_Contains_string_string_ok (l : List Str) (x0 : Str) : Fn Tryz.prog 177 [dt l, dt x0] (dt (cmpI .geq (idxOf (fun x => decide (x0 = x)) l) 0)) := by
  refine fn_of_wp (fn := Tryz.f177) Tryz.func177 rfl (of_decide_eq_true rfl) (fun M w0 a0 hm st0 => ?_)
  refine wp_seq ?_
  refine region_seg st0 (.cons rfl (by decide) (.plain rfl (op_assign rfl opd_bool))
    .nil)
    (.cons (s := 0) rfl trivial (.cons (s := 1) rfl trivial (.cons (s := 4) rfl trivial .nil))) (fun a1 w1 e1 st1 => ?_)
  refine then_normal ?_
  refine wp_seq ?_
  refine region_seg st1 (.cons rfl (by decide) (.plain rfl (op_move rfl (opd_tmp rfl)))
    (.cons rfl (by decide) (.plain rfl (op_move rfl (opd_tmp rfl)))
    (.cons rfl (by decide) (.plain rfl (op_call (l := [.tmp 5, .tmp 6]) rfl (by kernel_rfl) (.cons (opd_tmp rfl) (.cons (opd_tmp rfl) .nil)) (slices_Index_string_string_ok _ _)))
    (.cons rfl (by decide) (.plain rfl (op_cmpI rfl (by decide) (opd_tmp rfl) opd_int))
    (.cons rfl (by decide) (.plain rfl (op_assign rfl (opd_tmp rfl)))
    .nil)))))
    (.cons (s := 0) rfl trivial (.cons (s := 1) rfl trivial (.cons (s := 4) rfl trivial .nil))) (fun a2 w2 e2 st2 => ?_)
  refine then_normal ?_
  refine wp_ret ?_
  refine ret_dtM rfl (fun _ h => h) st2 (t := 4) rfl ?_
  rfl

theorem slices_Equal_int_int_ok (l m : List Int) : Fn Tryz.prog 62 [dt l, dt m] (dt (decide (l = m))) := by
  refine fn_of_wp (fn := Tryz.f62) Tryz.func62 rfl (of_decide_eq_true rfl) (fun M w0 a0 hm st0 => ?_)
  have hlen := st0.lenL (s := 0) rfl
  refine wp_seq ?_
  refine region_seg st0 (.cons rfl (by decide) (.plain rfl (op_assign rfl opd_bool))
    .nil)
    (.cons (s := 0) rfl trivial (.cons (s := 1) rfl trivial (.cons (s := 4) rfl trivial .nil))) (fun a1 w1 e1 st1 => ?_)
  refine then_normal ?_
  refine wp_seq ?_
  refine wp_seq ?_
  refine region_seg st1 (.cons rfl (by decide) (.plain rfl (op_move rfl (opd_tmp rfl)))
    (.cons rfl (by decide) (.plain rfl (op_lenL rfl (by kernel_rfl) (opd_tmp rfl)))
    (.cons rfl (by decide) (.plain rfl (op_move rfl (opd_tmp rfl)))
    (.cons rfl (by decide) (.plain rfl (op_lenL rfl (by kernel_rfl) (opd_tmp rfl)))
    (.cons rfl (by decide) (.plain rfl (op_cmpI rfl (by decide) (opd_tmp rfl) (opd_tmp rfl)))
    .nil)))))
    (.cons (s := 0) rfl trivial (.cons (s := 1) rfl trivial (.cons (s := 4) rfl trivial (.cons (s := 10) rfl trivial .nil)))) (fun a2 w2 e2 st2 => ?_)
  refine then_normal ?_
  refine cond_split (c := 10) st2 rfl (fun h1 => ?_) (fun h1 => ?_)
  ·
    have hd := h1
    refine wp_seq ?_
    refine region_seg st2 (.cons rfl (by decide) (.plain rfl (op_assign rfl opd_bool))
      .nil)
      (.cons (s := 0) rfl trivial (.cons (s := 1) rfl trivial (.cons (s := 4) rfl trivial (.cons (s := 10) rfl trivial .nil)))) (fun a3 w3 e3 st3 => ?_)
    refine then_normal ?_
    refine wp_ret (thn_ret ?_)
    refine ret_dtM rfl (fun _ h => h) st3 (t := 4) rfl ?_
    exact (decide_eq_false (fun e => by subst e; simp [cmpI] at hd)).symm
  ·
    have hd : l.length = m.length := by have := h1; simp only [cmpI, bne_eq_false_iff_eq] at this; omega
    refine wp_skip ?_
    refine then_normal ?_
    refine wp_seq ?_
    refine wp_seq ?_
    refine region_seg st2 (.cons rfl (by decide) (.plain rfl (op_move rfl (opd_tmp rfl)))
      (.cons rfl (by decide) (.plain rfl (op_lenL rfl (by kernel_rfl) (opd_tmp rfl)))
      (.cons rfl (by decide) (.plain rfl (op_move rfl opd_int))
      .nil)))
      (.cons (s := 0) rfl trivial (.cons (s := 1) rfl trivial (.cons (s := 4) rfl trivial (.cons (s := 10) rfl trivial (.cons (s := 12) rfl trivial (.cons (s := 13) rfl trivial .nil)))))) (fun a4 w4 e4 st4 => ?_)
    refine then_normal ?_
    refine wp_block ?_
    refine loop_st (ι := Nat) (fun k a w => St (Frm.of w0) 26 M [(0, dt l), (1, dt m), (12, dt (l.length : Int)), (13, dt (k : Int))] a w ∧ k ≤ l.length ∧ l.take k = m.take k) (fun k => l.length - k) 0 ?_ ?_
    ·
      exact ⟨st4.pick (.cons (s := 0) rfl trivial (.cons (s := 1) rfl trivial (.cons (s := 12) rfl trivial (.cons (s := 13) rfl trivial .nil)))), Nat.zero_le _, rfl⟩
    ·
      rintro k a5 w5 ⟨st5, hk, hp⟩
      refine wp_seq ?_
      refine region_seg st5 (.cons rfl (by decide) (.plain rfl (op_cmpI rfl (by decide) (opd_tmp rfl) (opd_tmp rfl)))
        .nil)
        (.cons (s := 0) rfl trivial (.cons (s := 1) rfl trivial (.cons (s := 12) rfl trivial (.cons (s := 13) rfl trivial (.cons (s := 14) rfl trivial .nil))))) (fun a6 w6 e6 st6 => ?_)
      refine then_normal ?_
      refine wp_seq ?_
      refine cond_split (c := 14) st6 rfl (fun h2 => ?_) (fun h2 => ?_)
      ·
        obtain ⟨x, hx⟩ := idx_of h2
        have hlt := lt_of_get hx
        obtain ⟨y, hy⟩ := same_get hd hx
        refine wp_skip ?_
        refine then_normal ?_
        refine wp_seq ?_
        refine wp_block ?_
        refine wp_seq ?_
        refine region_seg st6 (.cons rfl (by decide) (.plain rfl (op_move rfl (opd_tmp rfl)))
          (.cons rfl (by decide) (.plain rfl (op_assign rfl (opd_tmp rfl)))
          .nil))
          (.cons (s := 0) rfl trivial (.cons (s := 1) rfl trivial (.cons (s := 5) rfl trivial (.cons (s := 12) rfl trivial (.cons (s := 13) rfl trivial (.cons (s := 14) rfl trivial .nil)))))) (fun a7 w7 e7 st7 => ?_)
        refine then_normal ?_
        refine wp_seq ?_
        refine region_any Tryz_mixed [[], [], [0, 1], [0, 1, 2], [], [], [4, 5], [4, 5, 6], [0, 1, 2, 3, 4, 5, 6, 7]] [[(0, none)], [(5, none)], [(16, some 0), (17, some 1)], [(18, some 2)], [(1, none)], [(5, none)], [(20, some 4), (21, some 5)], [(22, some 6)], [(19, some 3), (23, some 7)]] (by decide +kernel) st7 (D := [_, _, _, _, _, _, _, _, _])
          (.cons rfl (by decide) rfl (.plain rfl (op_move rfl (opd_tmp rfl)))
          (.cons rfl (by decide) rfl (.plain rfl (op_move rfl (opd_tmp rfl)))
          (.cons rfl (by decide) rfl (.plain rfl (op_indexE rfl (by kernel_rfl) (opd_tmp rfl) (opd_tmp rfl) rfl hx))
          (.cons rfl (by decide) rfl (.plain rfl (op_load rfl (by kernel_rfl) (opd_tmp rfl)))
          (.cons rfl (by decide) rfl (.plain rfl (op_move rfl (opd_tmp rfl)))
          (.cons rfl (by decide) rfl (.plain rfl (op_move rfl (opd_tmp rfl)))
          (.cons rfl (by decide) rfl (.plain rfl (op_indexE rfl (by kernel_rfl) (opd_tmp rfl) (opd_tmp rfl) rfl hy))
          (.cons rfl (by decide) rfl (.plain rfl (op_load rfl (by kernel_rfl) (opd_tmp rfl)))
          (.cons rfl (by decide) rfl (.plain rfl (op_cmpI rfl (by decide) (opd_tmp rfl) (opd_tmp rfl)))
          .nil)))))))))
          (.cons (s := 0) rfl trivial (.cons (s := 1) rfl trivial (.cons (s := 5) rfl trivial (.cons (s := 12) rfl trivial (.cons (s := 13) rfl trivial (.cons (s := 14) rfl trivial (.cons (s := 24) rfl trivial .nil))))))) (fun a8 w8 e8 st8 => ?_)
        refine then_normal ?_
        refine cond_split (c := 24) st8 rfl (fun h3 => ?_) (fun h3 => ?_)
        ·
          have ht := h3
          refine wp_seq ?_
          refine region_seg st8 (.cons rfl (by decide) (.plain rfl (op_assign rfl opd_bool))
            .nil)
            (.cons (s := 0) rfl trivial (.cons (s := 1) rfl trivial (.cons (s := 4) rfl trivial (.cons (s := 5) rfl trivial (.cons (s := 12) rfl trivial (.cons (s := 13) rfl trivial (.cons (s := 14) rfl trivial (.cons (s := 24) rfl trivial .nil)))))))) (fun a9 w9 e9 st9 => ?_)
          refine then_normal ?_
          refine wp_ret (blk_ret (thn_ret (thn_ret (blk_ret (thn_ret ?_)))))
          refine ret_dtM rfl (fun _ h => h) st9 (t := 4) rfl ?_
          exact (takeE_ne hx hy (by simpa [cmpI] using ht)).symm
        ·
          have hf := h3
          refine wp_skip ?_
          refine blk_normal ?_
          refine then_normal ?_
          refine region_seg st8 (.cons rfl (by decide) (.plain rfl (op_arI rfl (by decide) (opd_tmp rfl) opd_int (by simp only [arI]; omega)))
            (.cons rfl (by decide) (.plain rfl (op_move rfl (opd_tmp rfl)))
            .nil))
            (.cons (s := 0) rfl trivial (.cons (s := 1) rfl trivial (.cons (s := 5) rfl trivial (.cons (s := 12) rfl trivial (.cons (s := 13) rfl trivial (.cons (s := 14) rfl trivial (.cons (s := 24) rfl trivial .nil))))))) (fun a10 w10 e10 st10 => ?_)
          refine then_normal ⟨k+1, ⟨st10.pick (.cons (s := 0) rfl trivial (.cons (s := 1) rfl trivial (.cons (s := 12) rfl trivial (.cons (s := 13) rfl trivial .nil)))), by omega, takeE_next hp hx hy (by simpa [cmpI] using hf)⟩, by omega⟩
      ·
        have hend := end_of h2
        refine wp_exit (thn_exit (thn_exit (exit_here ?_)))
        refine then_normal ?_
        refine wp_seq ?_
        refine region_seg st6 (.cons rfl (by decide) (.plain rfl (op_assign rfl opd_bool))
          .nil)
          (.cons (s := 0) rfl trivial (.cons (s := 1) rfl trivial (.cons (s := 4) rfl trivial (.cons (s := 12) rfl trivial (.cons (s := 13) rfl trivial (.cons (s := 14) rfl trivial .nil)))))) (fun a11 w11 e11 st11 => ?_)
        refine then_normal ?_
        refine wp_ret ?_
        refine ret_dtM rfl (fun _ h => h) st11 (t := 4) rfl ?_
        exact (decide_eq_true (takeE_end hd hend hp)).symm

theorem slices_Equal_string_string_ok (l m : List Str) : Fn Tryz.prog 60 [dt l, dt m] (dt (decide (l = m))) := by
  refine fn_of_wp (fn := Tryz.f60) Tryz.func60 rfl (of_decide_eq_true rfl) (fun M w0 a0 hm st0 => ?_)
  have hlen := st0.lenL (s := 0) rfl
  refine wp_seq ?_
  refine region_seg st0 (.cons rfl (by decide) (.plain rfl (op_assign rfl opd_bool))
    .nil)
    (.cons (s := 0) rfl trivial (.cons (s := 1) rfl trivial (.cons (s := 4) rfl trivial .nil))) (fun a1 w1 e1 st1 => ?_)
  refine then_normal ?_
  refine wp_seq ?_
  refine wp_seq ?_
  refine region_seg st1 (.cons rfl (by decide) (.plain rfl (op_move rfl (opd_tmp rfl)))
    (.cons rfl (by decide) (.plain rfl (op_lenL rfl (by kernel_rfl) (opd_tmp rfl)))
    (.cons rfl (by decide) (.plain rfl (op_move rfl (opd_tmp rfl)))
    (.cons rfl (by decide) (.plain rfl (op_lenL rfl (by kernel_rfl) (opd_tmp rfl)))
    (.cons rfl (by decide) (.plain rfl (op_cmpI rfl (by decide) (opd_tmp rfl) (opd_tmp rfl)))
    .nil)))))
    (.cons (s := 0) rfl trivial (.cons (s := 1) rfl trivial (.cons (s := 4) rfl trivial (.cons (s := 10) rfl trivial .nil)))) (fun a2 w2 e2 st2 => ?_)
  refine then_normal ?_
  refine cond_split (c := 10) st2 rfl (fun h1 => ?_) (fun h1 => ?_)
  ·
    have hd := h1
    refine wp_seq ?_
    refine region_seg st2 (.cons rfl (by decide) (.plain rfl (op_assign rfl opd_bool))
      .nil)
      (.cons (s := 0) rfl trivial (.cons (s := 1) rfl trivial (.cons (s := 4) rfl trivial (.cons (s := 10) rfl trivial .nil)))) (fun a3 w3 e3 st3 => ?_)
    refine then_normal ?_
    refine wp_ret (thn_ret ?_)
    refine ret_dtM rfl (fun _ h => h) st3 (t := 4) rfl ?_
    exact (decide_eq_false (fun e => by subst e; simp [cmpI] at hd)).symm
  ·
    have hd : l.length = m.length := by have := h1; simp only [cmpI, bne_eq_false_iff_eq] at this; omega
    refine wp_skip ?_
    refine then_normal ?_
    refine wp_seq ?_
    refine wp_seq ?_
    refine region_seg st2 (.cons rfl (by decide) (.plain rfl (op_move rfl (opd_tmp rfl)))
      (.cons rfl (by decide) (.plain rfl (op_lenL rfl (by kernel_rfl) (opd_tmp rfl)))
      (.cons rfl (by decide) (.plain rfl (op_move rfl opd_int))
      .nil)))
      (.cons (s := 0) rfl trivial (.cons (s := 1) rfl trivial (.cons (s := 4) rfl trivial (.cons (s := 10) rfl trivial (.cons (s := 12) rfl trivial (.cons (s := 13) rfl trivial .nil)))))) (fun a4 w4 e4 st4 => ?_)
    refine then_normal ?_
    refine wp_block ?_
    refine loop_st (ι := Nat) (fun k a w => St (Frm.of w0) 26 M [(0, dt l), (1, dt m), (12, dt (l.length : Int)), (13, dt (k : Int))] a w ∧ k ≤ l.length ∧ l.take k = m.take k) (fun k => l.length - k) 0 ?_ ?_
    ·
      exact ⟨st4.pick (.cons (s := 0) rfl trivial (.cons (s := 1) rfl trivial (.cons (s := 12) rfl trivial (.cons (s := 13) rfl trivial .nil)))), Nat.zero_le _, rfl⟩
    ·
      rintro k a5 w5 ⟨st5, hk, hp⟩
      refine wp_seq ?_
      refine region_seg st5 (.cons rfl (by decide) (.plain rfl (op_cmpI rfl (by decide) (opd_tmp rfl) (opd_tmp rfl)))
        .nil)
        (.cons (s := 0) rfl trivial (.cons (s := 1) rfl trivial (.cons (s := 12) rfl trivial (.cons (s := 13) rfl trivial (.cons (s := 14) rfl trivial .nil))))) (fun a6 w6 e6 st6 => ?_)
      refine then_normal ?_
      refine wp_seq ?_
      refine cond_split (c := 14) st6 rfl (fun h2 => ?_) (fun h2 => ?_)
      ·
        obtain ⟨x, hx⟩ := idx_of h2
        have hlt := lt_of_get hx
        obtain ⟨y, hy⟩ := same_get hd hx
        refine wp_skip ?_
        refine then_normal ?_
        refine wp_seq ?_
        refine wp_block ?_
        refine wp_seq ?_
        refine region_seg st6 (.cons rfl (by decide) (.plain rfl (op_move rfl (opd_tmp rfl)))
          (.cons rfl (by decide) (.plain rfl (op_assign rfl (opd_tmp rfl)))
          .nil))
          (.cons (s := 0) rfl trivial (.cons (s := 1) rfl trivial (.cons (s := 5) rfl trivial (.cons (s := 12) rfl trivial (.cons (s := 13) rfl trivial (.cons (s := 14) rfl trivial .nil)))))) (fun a7 w7 e7 st7 => ?_)
        refine then_normal ?_
        refine wp_seq ?_
        refine region_any Tryz_mixed [[], [], [0, 1], [0, 1, 2], [], [], [4, 5], [4, 5, 6], [0, 1, 2, 3, 4, 5, 6, 7]] [[(0, none)], [(5, none)], [(16, some 0), (17, some 1)], [(18, some 2)], [(1, none)], [(5, none)], [(20, some 4), (21, some 5)], [(22, some 6)], [(19, some 3), (23, some 7)]] (by decide +kernel) st7 (D := [_, _, _, _, _, _, _, _, _])
          (.cons rfl (by decide) rfl (.plain rfl (op_move rfl (opd_tmp rfl)))
          (.cons rfl (by decide) rfl (.plain rfl (op_move rfl (opd_tmp rfl)))
          (.cons rfl (by decide) rfl (.plain rfl (op_indexE rfl (by kernel_rfl) (opd_tmp rfl) (opd_tmp rfl) rfl hx))
          (.cons rfl (by decide) rfl (.plain rfl (op_load rfl (by kernel_rfl) (opd_tmp rfl)))
          (.cons rfl (by decide) rfl (.plain rfl (op_move rfl (opd_tmp rfl)))
          (.cons rfl (by decide) rfl (.plain rfl (op_move rfl (opd_tmp rfl)))
          (.cons rfl (by decide) rfl (.plain rfl (op_indexE rfl (by kernel_rfl) (opd_tmp rfl) (opd_tmp rfl) rfl hy))
          (.cons rfl (by decide) rfl (.plain rfl (op_load rfl (by kernel_rfl) (opd_tmp rfl)))
          (.cons rfl (by decide) rfl (.plain rfl (op_neS rfl (opd_tmp rfl) (opd_tmp rfl)))
          .nil)))))))))
          (.cons (s := 0) rfl trivial (.cons (s := 1) rfl trivial (.cons (s := 5) rfl trivial (.cons (s := 12) rfl trivial (.cons (s := 13) rfl trivial (.cons (s := 14) rfl trivial (.cons (s := 24) rfl trivial .nil))))))) (fun a8 w8 e8 st8 => ?_)
        refine then_normal ?_
        refine cond_split (c := 24) st8 rfl (fun h3 => ?_) (fun h3 => ?_)
        ·
          have ht := h3
          refine wp_seq ?_
          refine region_seg st8 (.cons rfl (by decide) (.plain rfl (op_assign rfl opd_bool))
            .nil)
            (.cons (s := 0) rfl trivial (.cons (s := 1) rfl trivial (.cons (s := 4) rfl trivial (.cons (s := 5) rfl trivial (.cons (s := 12) rfl trivial (.cons (s := 13) rfl trivial (.cons (s := 14) rfl trivial (.cons (s := 24) rfl trivial .nil)))))))) (fun a9 w9 e9 st9 => ?_)
          refine then_normal ?_
          refine wp_ret (blk_ret (thn_ret (thn_ret (blk_ret (thn_ret ?_)))))
          refine ret_dtM rfl (fun _ h => h) st9 (t := 4) rfl ?_
          exact (takeE_ne hx hy (by simpa using ht)).symm
        ·
          have hf := h3
          refine wp_skip ?_
          refine blk_normal ?_
          refine then_normal ?_
          refine region_seg st8 (.cons rfl (by decide) (.plain rfl (op_arI rfl (by decide) (opd_tmp rfl) opd_int (by simp only [arI]; omega)))
            (.cons rfl (by decide) (.plain rfl (op_move rfl (opd_tmp rfl)))
            .nil))
            (.cons (s := 0) rfl trivial (.cons (s := 1) rfl trivial (.cons (s := 5) rfl trivial (.cons (s := 12) rfl trivial (.cons (s := 13) rfl trivial (.cons (s := 14) rfl trivial (.cons (s := 24) rfl trivial .nil))))))) (fun a10 w10 e10 st10 => ?_)
          refine then_normal ⟨k+1, ⟨st10.pick (.cons (s := 0) rfl trivial (.cons (s := 1) rfl trivial (.cons (s := 12) rfl trivial (.cons (s := 13) rfl trivial .nil)))), by omega, takeE_next hp hx hy (by simpa using hf)⟩, by omega⟩
      ·
        have hend := end_of h2
        refine wp_exit (thn_exit (thn_exit (exit_here ?_)))
        refine then_normal ?_
        refine wp_seq ?_
        refine region_seg st6 (.cons rfl (by decide) (.plain rfl (op_assign rfl opd_bool))
          .nil)
          (.cons (s := 0) rfl trivial (.cons (s := 1) rfl trivial (.cons (s := 4) rfl trivial (.cons (s := 12) rfl trivial (.cons (s := 13) rfl trivial (.cons (s := 14) rfl trivial .nil)))))) (fun a11 w11 e11 st11 => ?_)
        refine then_normal ?_
        refine wp_ret ?_
        refine ret_dtM rfl (fun _ h => h) st11 (t := 4) rfl ?_
        exact (decide_eq_true (takeE_end hd hend hp)).symm

end Go.Proofs.YtionokffhhiicaaGreatDoor

namespace Go.Proofs.YtionokffhhiicaaGreatDoor
open Go.RowKit
set_option maxRecDepth 10000

theorem laws_szStmt_ok (s : Stmt) (left : Int) (hl : -1 ≤ left ∧ left ≤ 1048576) : Fn Tryz.prog 174 [dt s, dt left] (dt (szStmt s left)) := by
  refine fn_of_wp (fn := Tryz.f174) Tryz.func174 rfl (of_decide_eq_true rfl) (fun M w0 a0 hm st0 => ?_)
  have hl1 := st0.fldS Stmt.fld1 (s := 0) rfl
  have hl2 := st0.fldS Stmt.fld3 (s := 0) rfl
  refine wp_seq ?_
  refine region_seg st0 (.cons rfl (by decide) (.plain rfl (op_box rfl (opd_tmp rfl)))
    (.cons rfl (by decide) (.plain rfl (op_assign rfl opd_int))
    .nil))
    (.cons (s := 0) rfl trivial (.cons (s := 1) rfl trivial (.cons (s := 2) rfl trivial (.cons (s := 4) rfl trivial .nil)))) (fun a1 w1 e1 st1 => ?_)
  refine then_normal ?_
  refine wp_seq ?_
  refine region_seg st1 (.cons rfl (by decide) (.plain rfl (op_move rfl (opd_tmp rfl)))
    (.cons rfl (by decide) (.plain rfl (op_field Stmt.fld1 rfl (by kernel_rfl) (opd_tmp rfl)))
    (.cons rfl (by decide) (.plain rfl (op_load rfl (by kernel_rfl) (opd_tmp rfl)))
    (.cons rfl (by decide) (.plain rfl (op_lenS rfl (by kernel_rfl) (opd_tmp rfl)))
    (.cons rfl (by decide) (.plain rfl (op_arI rfl (by decide) (opd_tmp rfl) (opd_tmp rfl) (by simp only [arI]; omega)))
    (.cons rfl (by decide) (.plain rfl (op_assign rfl (opd_tmp rfl)))
    .nil))))))
    (.cons (s := 0) rfl trivial (.cons (s := 1) rfl trivial (.cons (s := 2) rfl trivial (.cons (s := 4) rfl trivial .nil)))) (fun a2 w2 e2 st2 => ?_)
  refine then_normal ?_
  refine wp_seq ?_
  refine wp_seq ?_
  refine region_seg st2 (.cons rfl (by decide) (.plain rfl (op_move rfl (opd_tmp rfl)))
    (.cons rfl (by decide) (.plain rfl (op_cmpI rfl (by decide) (opd_tmp rfl) opd_int))
    .nil))
    (.cons (s := 0) rfl trivial (.cons (s := 1) rfl trivial (.cons (s := 2) rfl trivial (.cons (s := 4) rfl trivial (.cons (s := 11) rfl trivial .nil))))) (fun a3 w3 e3 st3 => ?_)
  refine then_normal ?_
  refine cond_split (c := 11) st3 rfl (fun h1 => ?_) (fun h1 => ?_)
  ·
    have q0 := h1
    refine wp_seq ?_
    refine region_seg st3 (.cons rfl (by decide) (.plain rfl (op_assign rfl opd_int))
      .nil)
      (.cons (s := 0) rfl trivial (.cons (s := 1) rfl trivial (.cons (s := 2) rfl trivial (.cons (s := 4) rfl trivial (.cons (s := 11) rfl trivial .nil))))) (fun a4 w4 e4 st4 => ?_)
    refine then_normal ?_
    refine wp_ret (thn_ret ?_)
    refine ret_dtM rfl (fun _ h => h) st4 (t := 4) rfl ?_
    rw [szStmt, if_pos q0]
  ·
    have q0 := h1
    refine wp_skip ?_
    refine then_normal ?_
    refine wp_seq ?_
    refine region_seg st3 (.cons rfl (by decide) (.plain rfl (op_move rfl (opd_tmp rfl)))
      (.cons rfl (by decide) (.plain rfl (op_field Stmt.fld3 rfl (by kernel_rfl) (opd_tmp rfl)))
      (.cons rfl (by decide) (.plain rfl (op_load rfl (by kernel_rfl) (opd_tmp rfl)))
      (.cons rfl (by decide) (.plain rfl (op_lenS rfl (by kernel_rfl) (opd_tmp rfl)))
      (.cons rfl (by decide) (.plain rfl (op_arI rfl (by decide) (opd_tmp rfl) (opd_tmp rfl) (by have := nneg0 q0; simp only [arI] at *; omega)))
      (.cons rfl (by decide) (.plain rfl (op_assign rfl (opd_tmp rfl)))
      .nil))))))
      (.cons (s := 0) rfl trivial (.cons (s := 1) rfl trivial (.cons (s := 2) rfl trivial (.cons (s := 4) rfl trivial (.cons (s := 11) rfl trivial .nil))))) (fun a5 w5 e5 st5 => ?_)
    refine then_normal ?_
    refine wp_seq ?_
    refine wp_seq ?_
    refine region_seg st5 (.cons rfl (by decide) (.plain rfl (op_move rfl (opd_tmp rfl)))
      (.cons rfl (by decide) (.plain rfl (op_cmpI rfl (by decide) (opd_tmp rfl) opd_int))
      .nil))
      (.cons (s := 0) rfl trivial (.cons (s := 1) rfl trivial (.cons (s := 2) rfl trivial (.cons (s := 4) rfl trivial (.cons (s := 11) rfl trivial (.cons (s := 18) rfl trivial .nil)))))) (fun a6 w6 e6 st6 => ?_)
    refine then_normal ?_
    refine cond_split (c := 18) st6 rfl (fun h2 => ?_) (fun h2 => ?_)
    ·
      have q1 := h2
      refine wp_seq ?_
      refine region_seg st6 (.cons rfl (by decide) (.plain rfl (op_assign rfl opd_int))
        .nil)
        (.cons (s := 0) rfl trivial (.cons (s := 1) rfl trivial (.cons (s := 2) rfl trivial (.cons (s := 4) rfl trivial (.cons (s := 11) rfl trivial (.cons (s := 18) rfl trivial .nil)))))) (fun a7 w7 e7 st7 => ?_)
      refine then_normal ?_
      refine wp_ret (thn_ret ?_)
      refine ret_dtM rfl (fun _ h => h) st7 (t := 4) rfl ?_
      rw [szStmt, if_neg (by rw [q0]; decide), if_pos q1]
    ·
      have q1 := h2
      refine wp_skip ?_
      refine then_normal ?_
      refine wp_seq ?_
      refine region_seg st6 (.cons rfl (by decide) (.plain rfl (op_move rfl (opd_tmp rfl)))
        (.cons rfl (by decide) (.plain rfl (op_assign rfl (opd_tmp rfl)))
        .nil))
        (.cons (s := 0) rfl trivial (.cons (s := 1) rfl trivial (.cons (s := 2) rfl trivial (.cons (s := 4) rfl trivial (.cons (s := 11) rfl trivial (.cons (s := 18) rfl trivial .nil)))))) (fun a8 w8 e8 st8 => ?_)
      refine then_normal ?_
      refine wp_ret ?_
      refine ret_dtM rfl (fun _ h => h) st8 (t := 4) rfl ?_
      rw [szStmt, if_neg (by rw [q0]; decide), if_neg (by rw [q1]; decide)]

theorem laws_szStmtS_ok (b : List Stmt) (left : Int) (hl : -1 ≤ left ∧ left ≤ 1048576) : Fn Tryz.prog 143 [dt b, dt left] (dt (szRow szStmt b left)) := by
  refine fn_of_wp (fn := Tryz.f143) Tryz.func143 rfl (of_decide_eq_true rfl) (fun M w0 a0 hm st0 => ?_)
  have hlen := st0.lenL (s := 0) rfl
  refine wp_seq ?_
  refine region_seg st0 (.cons rfl (by decide) (.plain rfl (op_assign rfl opd_int))
    .nil)
    (.cons (s := 0) rfl trivial (.cons (s := 1) rfl trivial (.cons (s := 4) rfl trivial .nil))) (fun a1 w1 e1 st1 => ?_)
  refine then_normal ?_
  refine wp_seq ?_
  refine region_seg st1 (.cons rfl (by decide) (.plain rfl (op_move rfl (opd_tmp rfl)))
    (.cons rfl (by decide) (.plain rfl (op_move rfl (opd_tmp rfl)))
    (.cons rfl (by decide) (.plain rfl (op_lenL rfl (by kernel_rfl) (opd_tmp rfl)))
    (.cons rfl (by decide) (.plain rfl (op_arI rfl (by decide) (opd_tmp rfl) (opd_tmp rfl) (by simp only [arI]; omega)))
    (.cons rfl (by decide) (.plain rfl (op_assign rfl (opd_tmp rfl)))
    .nil)))))
    (.cons (s := 0) rfl trivial (.cons (s := 1) rfl trivial (.cons (s := 4) rfl trivial .nil))) (fun a2 w2 e2 st2 => ?_)
  refine then_normal ?_
  refine wp_seq ?_
  refine wp_seq ?_
  refine region_seg st2 (.cons rfl (by decide) (.plain rfl (op_move rfl (opd_tmp rfl)))
    (.cons rfl (by decide) (.plain rfl (op_cmpI rfl (by decide) (opd_tmp rfl) opd_int))
    .nil))
    (.cons (s := 0) rfl trivial (.cons (s := 1) rfl trivial (.cons (s := 4) rfl trivial (.cons (s := 11) rfl trivial .nil)))) (fun a3 w3 e3 st3 => ?_)
  refine then_normal ?_
  refine cond_split (c := 11) st3 rfl (fun h1 => ?_) (fun h1 => ?_)
  ·
    have q0 := h1
    refine wp_seq ?_
    refine region_seg st3 (.cons rfl (by decide) (.plain rfl (op_assign rfl opd_int))
      .nil)
      (.cons (s := 0) rfl trivial (.cons (s := 1) rfl trivial (.cons (s := 4) rfl trivial (.cons (s := 11) rfl trivial .nil)))) (fun a4 w4 e4 st4 => ?_)
    refine then_normal ?_
    refine wp_ret (thn_ret ?_)
    refine ret_dtM rfl (fun _ h => h) st4 (t := 4) rfl ?_
    rw [szRow, if_pos q0]
  ·
    have q0 := h1
    refine wp_skip ?_
    refine then_normal ?_
    refine wp_seq ?_
    refine wp_seq ?_
    refine region_seg st3 (.cons rfl (by decide) (.plain rfl (op_assign rfl opd_int))
      .nil)
      (.cons (s := 0) rfl trivial (.cons (s := 1) rfl trivial (.cons (s := 4) rfl trivial (.cons (s := 5) rfl trivial (.cons (s := 11) rfl trivial .nil))))) (fun a5 w5 e5 st5 => ?_)
    refine then_normal ?_
    refine wp_block ?_
    refine loop_st (ι := Nat × Int) (fun i a w => St (Frm.of w0) 27 M [(0, dt b), (1, dt i.2), (5, dt (i.1 : Int))] a w ∧ i.1 ≤ b.length ∧ 0 ≤ i.2 ∧ i.2 ≤ 1048576 ∧ szRest szStmt (b.drop i.1) i.2 = szRow szStmt b left) (fun i => b.length - i.1) (0, arI .sub left b.length) ?_ ?_
    ·
      exact ⟨st5.pick (.cons (s := 0) rfl trivial (.cons (s := 1) rfl trivial (.cons (s := 5) rfl trivial .nil))), Nat.zero_le _, nneg0 q0, arI_le hl.2, by rw [szRow, if_neg (by rw [q0]; decide)]; rfl⟩
    ·
      rintro ⟨k, n⟩ a6 w6 ⟨st6, hk, hn0, hn1, hrun⟩
      dsimp only at *
      refine wp_seq ?_
      refine wp_seq ?_
      refine region_seg st6 (.cons rfl (by decide) (.plain rfl (op_move rfl (opd_tmp rfl)))
        (.cons rfl (by decide) (.plain rfl (op_move rfl (opd_tmp rfl)))
        (.cons rfl (by decide) (.plain rfl (op_lenL rfl (by kernel_rfl) (opd_tmp rfl)))
        (.cons rfl (by decide) (.plain rfl (op_cmpI rfl (by decide) (opd_tmp rfl) (opd_tmp rfl)))
        .nil))))
        (.cons (s := 0) rfl trivial (.cons (s := 1) rfl trivial (.cons (s := 5) rfl trivial (.cons (s := 15) rfl trivial .nil)))) (fun a7 w7 e7 st7 => ?_)
      refine then_normal ?_
      refine cond_split (c := 15) st7 rfl (fun h2 => ?_) (fun h2 => ?_)
      ·
        obtain ⟨x, hx⟩ := idx_of h2
        have hlt := lt_of_get hx
        refine wp_skip ?_
        refine then_normal ?_
        refine wp_seq ?_
        refine wp_block ?_
        refine wp_seq ?_
        refine region_seg st7 (.cons rfl (by decide) (.plain rfl (op_move rfl (opd_tmp rfl)))
          (.cons rfl (by decide) (.plain rfl (op_move rfl (opd_tmp rfl)))
          (.cons rfl (by decide) (.plain rfl (op_indexE rfl (by kernel_rfl) (opd_tmp rfl) (opd_tmp rfl) rfl (by assumption)))
          (.cons rfl (by decide) (.plain rfl (op_load rfl (by kernel_rfl) (opd_tmp rfl)))
          (.cons rfl (by decide) (.plain rfl (op_move rfl (opd_tmp rfl)))
          (.cons rfl (by decide) (.plain rfl (op_call (l := [.tmp 21, .tmp 22]) rfl (by kernel_rfl) (.cons (opd_tmp rfl) (.cons (opd_tmp rfl) .nil)) (laws_szStmt_ok _ _ ⟨by omega, hn1⟩)))
          (.cons rfl (by decide) (.plain rfl (op_assign rfl (opd_tmp rfl)))
          .nil)))))))
          (.cons (s := 0) rfl trivial (.cons (s := 1) rfl trivial (.cons (s := 5) rfl trivial (.cons (s := 15) rfl trivial .nil)))) (fun a8 w8 e8 st8 => ?_)
        refine then_normal ?_
        refine wp_seq ?_
        refine region_seg st8 (.cons rfl (by decide) (.plain rfl (op_move rfl (opd_tmp rfl)))
          (.cons rfl (by decide) (.plain rfl (op_cmpI rfl (by decide) (opd_tmp rfl) opd_int))
          .nil))
          (.cons (s := 0) rfl trivial (.cons (s := 1) rfl trivial (.cons (s := 5) rfl trivial (.cons (s := 15) rfl trivial (.cons (s := 25) rfl trivial .nil))))) (fun a9 w9 e9 st9 => ?_)
        refine then_normal ?_
        refine cond_split (c := 25) st9 rfl (fun h3 => ?_) (fun h3 => ?_)
        ·
          have q1 := h3
          refine wp_seq ?_
          refine region_seg st9 (.cons rfl (by decide) (.plain rfl (op_assign rfl opd_int))
            .nil)
            (.cons (s := 0) rfl trivial (.cons (s := 1) rfl trivial (.cons (s := 4) rfl trivial (.cons (s := 5) rfl trivial (.cons (s := 15) rfl trivial (.cons (s := 25) rfl trivial .nil)))))) (fun a10 w10 e10 st10 => ?_)
          refine then_normal ?_
          refine wp_ret (blk_ret (thn_ret (thn_ret (blk_ret (thn_ret ?_)))))
          refine ret_dtM rfl (fun _ h => h) st10 (t := 4) rfl ?_
          rw [← hrun, drop_at hx, szRest, if_pos q1]
        ·
          have q1 := h3
          refine wp_skip ?_
          refine blk_normal ?_
          refine then_normal ?_
          refine region_seg st9 (.cons rfl (by decide) (.plain rfl (op_move rfl (opd_tmp rfl)))
            (.cons rfl (by decide) (.plain rfl (op_arI rfl (by decide) (opd_tmp rfl) opd_int (by simp only [arI]; omega)))
            (.cons rfl (by decide) (.plain rfl (op_assign rfl (opd_tmp rfl)))
            .nil)))
            (.cons (s := 0) rfl trivial (.cons (s := 1) rfl trivial (.cons (s := 5) rfl trivial (.cons (s := 15) rfl trivial (.cons (s := 25) rfl trivial .nil))))) (fun a11 w11 e11 st11 => ?_)
          refine then_normal ⟨(k+1, szStmt x n), ⟨st11.pick (.cons (s := 0) rfl trivial (.cons (s := 1) rfl trivial (.cons (s := 5) rfl trivial .nil))), by dsimp only; omega, nneg0 q1, szStmt_le hn1, by dsimp only; rw [← hrun, drop_at hx]; exact (by rw [szRest, if_neg (by rw [q1]; decide)])⟩, by dsimp only; omega⟩
      ·
        have hend := end_of h2
        refine wp_exit (thn_exit (thn_exit (exit_here ?_)))
        refine then_normal ?_
        refine wp_seq ?_
        refine region_seg st7 (.cons rfl (by decide) (.plain rfl (op_move rfl (opd_tmp rfl)))
          (.cons rfl (by decide) (.plain rfl (op_assign rfl (opd_tmp rfl)))
          .nil))
          (.cons (s := 0) rfl trivial (.cons (s := 1) rfl trivial (.cons (s := 4) rfl trivial (.cons (s := 5) rfl trivial (.cons (s := 15) rfl trivial .nil))))) (fun a12 w12 e12 st12 => ?_)
        refine then_normal ?_
        refine wp_ret ?_
        refine ret_dtM rfl (fun _ h => h) st12 (t := 4) rfl ?_
        rw [← hrun, List.drop_of_length_le hend, szRest]

theorem laws_szFile_ok (f : File) (left : Int) (hl : -1 ≤ left ∧ left ≤ 1048576) : Fn Tryz.prog 98 [dt f, dt left] (dt (szFile f left)) := by
  refine fn_of_wp (fn := Tryz.f98) Tryz.func98 rfl (of_decide_eq_true rfl) (fun M w0 a0 hm st0 => ?_)
  have hl1 := st0.fldS File.fld1 (s := 0) rfl
  have hl2 := st0.fldS File.fld2 (s := 0) rfl
  refine wp_seq ?_
  refine region_seg st0 (.cons rfl (by decide) (.plain rfl (op_box rfl (opd_tmp rfl)))
    (.cons rfl (by decide) (.plain rfl (op_assign rfl opd_int))
    .nil))
    (.cons (s := 0) rfl trivial (.cons (s := 1) rfl trivial (.cons (s := 2) rfl trivial (.cons (s := 4) rfl trivial .nil)))) (fun a1 w1 e1 st1 => ?_)
  refine then_normal ?_
  refine wp_seq ?_
  refine region_seg st1 (.cons rfl (by decide) (.plain rfl (op_move rfl (opd_tmp rfl)))
    (.cons rfl (by decide) (.plain rfl (op_field File.fld1 rfl (by kernel_rfl) (opd_tmp rfl)))
    (.cons rfl (by decide) (.plain rfl (op_load rfl (by kernel_rfl) (opd_tmp rfl)))
    (.cons rfl (by decide) (.plain rfl (op_lenS rfl (by kernel_rfl) (opd_tmp rfl)))
    (.cons rfl (by decide) (.plain rfl (op_arI rfl (by decide) (opd_tmp rfl) (opd_tmp rfl) (by simp only [arI]; omega)))
    (.cons rfl (by decide) (.plain rfl (op_assign rfl (opd_tmp rfl)))
    .nil))))))
    (.cons (s := 0) rfl trivial (.cons (s := 1) rfl trivial (.cons (s := 2) rfl trivial (.cons (s := 4) rfl trivial .nil)))) (fun a2 w2 e2 st2 => ?_)
  refine then_normal ?_
  refine wp_seq ?_
  refine wp_seq ?_
  refine region_seg st2 (.cons rfl (by decide) (.plain rfl (op_move rfl (opd_tmp rfl)))
    (.cons rfl (by decide) (.plain rfl (op_cmpI rfl (by decide) (opd_tmp rfl) opd_int))
    .nil))
    (.cons (s := 0) rfl trivial (.cons (s := 1) rfl trivial (.cons (s := 2) rfl trivial (.cons (s := 4) rfl trivial (.cons (s := 11) rfl trivial .nil))))) (fun a3 w3 e3 st3 => ?_)
  refine then_normal ?_
  refine cond_split (c := 11) st3 rfl (fun h1 => ?_) (fun h1 => ?_)
  ·
    have q0 := h1
    refine wp_seq ?_
    refine region_seg st3 (.cons rfl (by decide) (.plain rfl (op_assign rfl opd_int))
      .nil)
      (.cons (s := 0) rfl trivial (.cons (s := 1) rfl trivial (.cons (s := 2) rfl trivial (.cons (s := 4) rfl trivial (.cons (s := 11) rfl trivial .nil))))) (fun a4 w4 e4 st4 => ?_)
    refine then_normal ?_
    refine wp_ret (thn_ret ?_)
    refine ret_dtM rfl (fun _ h => h) st4 (t := 4) rfl ?_
    rw [szFile, if_pos q0]
  ·
    have q0 := h1
    refine wp_skip ?_
    refine then_normal ?_
    refine wp_seq ?_
    refine region_seg st3 (.cons rfl (by decide) (.plain rfl (op_move rfl (opd_tmp rfl)))
      (.cons rfl (by decide) (.plain rfl (op_field File.fld2 rfl (by kernel_rfl) (opd_tmp rfl)))
      (.cons rfl (by decide) (.plain rfl (op_load rfl (by kernel_rfl) (opd_tmp rfl)))
      (.cons rfl (by decide) (.plain rfl (op_lenS rfl (by kernel_rfl) (opd_tmp rfl)))
      (.cons rfl (by decide) (.plain rfl (op_arI rfl (by decide) (opd_tmp rfl) (opd_tmp rfl) (by have := nneg0 q0; simp only [arI] at *; omega)))
      (.cons rfl (by decide) (.plain rfl (op_assign rfl (opd_tmp rfl)))
      .nil))))))
      (.cons (s := 0) rfl trivial (.cons (s := 1) rfl trivial (.cons (s := 2) rfl trivial (.cons (s := 4) rfl trivial (.cons (s := 11) rfl trivial .nil))))) (fun a5 w5 e5 st5 => ?_)
    refine then_normal ?_
    refine wp_seq ?_
    refine wp_seq ?_
    refine region_seg st5 (.cons rfl (by decide) (.plain rfl (op_move rfl (opd_tmp rfl)))
      (.cons rfl (by decide) (.plain rfl (op_cmpI rfl (by decide) (opd_tmp rfl) opd_int))
      .nil))
      (.cons (s := 0) rfl trivial (.cons (s := 1) rfl trivial (.cons (s := 2) rfl trivial (.cons (s := 4) rfl trivial (.cons (s := 11) rfl trivial (.cons (s := 18) rfl trivial .nil)))))) (fun a6 w6 e6 st6 => ?_)
    refine then_normal ?_
    refine cond_split (c := 18) st6 rfl (fun h2 => ?_) (fun h2 => ?_)
    ·
      have q1 := h2
      refine wp_seq ?_
      refine region_seg st6 (.cons rfl (by decide) (.plain rfl (op_assign rfl opd_int))
        .nil)
        (.cons (s := 0) rfl trivial (.cons (s := 1) rfl trivial (.cons (s := 2) rfl trivial (.cons (s := 4) rfl trivial (.cons (s := 11) rfl trivial (.cons (s := 18) rfl trivial .nil)))))) (fun a7 w7 e7 st7 => ?_)
      refine then_normal ?_
      refine wp_ret (thn_ret ?_)
      refine ret_dtM rfl (fun _ h => h) st7 (t := 4) rfl ?_
      rw [szFile, if_neg (by rw [q0]; decide), if_pos q1]
    ·
      have q1 := h2
      refine wp_skip ?_
      refine then_normal ?_
      refine wp_seq ?_
      refine region_seg st6 (.cons rfl (by decide) (.plain rfl (op_field File.fld5 rfl (by kernel_rfl) (opd_tmp rfl)))
        (.cons rfl (by decide) (.plain rfl (op_load rfl (by kernel_rfl) (opd_tmp rfl)))
        (.cons rfl (by decide) (.plain rfl (op_move rfl (opd_tmp rfl)))
        (.cons rfl (by decide) (.plain rfl (op_call (l := [.tmp 20, .tmp 21]) rfl (by kernel_rfl) (.cons (opd_tmp rfl) (.cons (opd_tmp rfl) .nil)) (laws_szStmtS_ok _ _ ⟨by have := nneg0 q1; omega, arI_le (arI_le hl.2)⟩)))
        (.cons rfl (by decide) (.plain rfl (op_assign rfl (opd_tmp rfl)))
        .nil)))))
        (.cons (s := 0) rfl trivial (.cons (s := 1) rfl trivial (.cons (s := 2) rfl trivial (.cons (s := 4) rfl trivial (.cons (s := 11) rfl trivial (.cons (s := 18) rfl trivial .nil)))))) (fun a8 w8 e8 st8 => ?_)
      refine then_normal ?_
      refine wp_seq ?_
      refine wp_seq ?_
      refine region_seg st8 (.cons rfl (by decide) (.plain rfl (op_move rfl (opd_tmp rfl)))
        (.cons rfl (by decide) (.plain rfl (op_cmpI rfl (by decide) (opd_tmp rfl) opd_int))
        .nil))
        (.cons (s := 0) rfl trivial (.cons (s := 1) rfl trivial (.cons (s := 2) rfl trivial (.cons (s := 4) rfl trivial (.cons (s := 11) rfl trivial (.cons (s := 18) rfl trivial (.cons (s := 24) rfl trivial .nil))))))) (fun a9 w9 e9 st9 => ?_)
      refine then_normal ?_
      refine cond_split (c := 24) st9 rfl (fun h3 => ?_) (fun h3 => ?_)
      ·
        have q2 := h3
        refine wp_seq ?_
        refine region_seg st9 (.cons rfl (by decide) (.plain rfl (op_assign rfl opd_int))
          .nil)
          (.cons (s := 0) rfl trivial (.cons (s := 1) rfl trivial (.cons (s := 2) rfl trivial (.cons (s := 4) rfl trivial (.cons (s := 11) rfl trivial (.cons (s := 18) rfl trivial (.cons (s := 24) rfl trivial .nil))))))) (fun a10 w10 e10 st10 => ?_)
        refine then_normal ?_
        refine wp_ret (thn_ret ?_)
        refine ret_dtM rfl (fun _ h => h) st10 (t := 4) rfl ?_
        rw [szFile, if_neg (by rw [q0]; decide), if_neg (by rw [q1]; decide), if_pos q2]
      ·
        have q2 := h3
        refine wp_skip ?_
        refine then_normal ?_
        refine wp_seq ?_
        refine region_seg st9 (.cons rfl (by decide) (.plain rfl (op_move rfl (opd_tmp rfl)))
          (.cons rfl (by decide) (.plain rfl (op_assign rfl (opd_tmp rfl)))
          .nil))
          (.cons (s := 0) rfl trivial (.cons (s := 1) rfl trivial (.cons (s := 2) rfl trivial (.cons (s := 4) rfl trivial (.cons (s := 11) rfl trivial (.cons (s := 18) rfl trivial (.cons (s := 24) rfl trivial .nil))))))) (fun a11 w11 e11 st11 => ?_)
        refine then_normal ?_
        refine wp_ret ?_
        refine ret_dtM rfl (fun _ h => h) st11 (t := 4) rfl ?_
        rw [szFile, if_neg (by rw [q0]; decide), if_neg (by rw [q1]; decide), if_neg (by rw [q2]; decide)]

theorem laws_szFileS_ok (b : List File) (left : Int) (hl : -1 ≤ left ∧ left ≤ 1048576) : Fn Tryz.prog 52 [dt b, dt left] (dt (szRow szFile b left)) := by
  refine fn_of_wp (fn := Tryz.f52) Tryz.func52 rfl (of_decide_eq_true rfl) (fun M w0 a0 hm st0 => ?_)
  have hlen := st0.lenL (s := 0) rfl
  refine wp_seq ?_
  refine region_seg st0 (.cons rfl (by decide) (.plain rfl (op_assign rfl opd_int))
    .nil)
    (.cons (s := 0) rfl trivial (.cons (s := 1) rfl trivial (.cons (s := 4) rfl trivial .nil))) (fun a1 w1 e1 st1 => ?_)
  refine then_normal ?_
  refine wp_seq ?_
  refine region_seg st1 (.cons rfl (by decide) (.plain rfl (op_move rfl (opd_tmp rfl)))
    (.cons rfl (by decide) (.plain rfl (op_move rfl (opd_tmp rfl)))
    (.cons rfl (by decide) (.plain rfl (op_lenL rfl (by kernel_rfl) (opd_tmp rfl)))
    (.cons rfl (by decide) (.plain rfl (op_arI rfl (by decide) (opd_tmp rfl) (opd_tmp rfl) (by simp only [arI]; omega)))
    (.cons rfl (by decide) (.plain rfl (op_assign rfl (opd_tmp rfl)))
    .nil)))))
    (.cons (s := 0) rfl trivial (.cons (s := 1) rfl trivial (.cons (s := 4) rfl trivial .nil))) (fun a2 w2 e2 st2 => ?_)
  refine then_normal ?_
  refine wp_seq ?_
  refine wp_seq ?_
  refine region_seg st2 (.cons rfl (by decide) (.plain rfl (op_move rfl (opd_tmp rfl)))
    (.cons rfl (by decide) (.plain rfl (op_cmpI rfl (by decide) (opd_tmp rfl) opd_int))
    .nil))
    (.cons (s := 0) rfl trivial (.cons (s := 1) rfl trivial (.cons (s := 4) rfl trivial (.cons (s := 11) rfl trivial .nil)))) (fun a3 w3 e3 st3 => ?_)
  refine then_normal ?_
  refine cond_split (c := 11) st3 rfl (fun h1 => ?_) (fun h1 => ?_)
  ·
    have q0 := h1
    refine wp_seq ?_
    refine region_seg st3 (.cons rfl (by decide) (.plain rfl (op_assign rfl opd_int))
      .nil)
      (.cons (s := 0) rfl trivial (.cons (s := 1) rfl trivial (.cons (s := 4) rfl trivial (.cons (s := 11) rfl trivial .nil)))) (fun a4 w4 e4 st4 => ?_)
    refine then_normal ?_
    refine wp_ret (thn_ret ?_)
    refine ret_dtM rfl (fun _ h => h) st4 (t := 4) rfl ?_
    rw [szRow, if_pos q0]
  ·
    have q0 := h1
    refine wp_skip ?_
    refine then_normal ?_
    refine wp_seq ?_
    refine wp_seq ?_
    refine region_seg st3 (.cons rfl (by decide) (.plain rfl (op_assign rfl opd_int))
      .nil)
      (.cons (s := 0) rfl trivial (.cons (s := 1) rfl trivial (.cons (s := 4) rfl trivial (.cons (s := 5) rfl trivial (.cons (s := 11) rfl trivial .nil))))) (fun a5 w5 e5 st5 => ?_)
    refine then_normal ?_
    refine wp_block ?_
    refine loop_st (ι := Nat × Int) (fun i a w => St (Frm.of w0) 27 M [(0, dt b), (1, dt i.2), (5, dt (i.1 : Int))] a w ∧ i.1 ≤ b.length ∧ 0 ≤ i.2 ∧ i.2 ≤ 1048576 ∧ szRest szFile (b.drop i.1) i.2 = szRow szFile b left) (fun i => b.length - i.1) (0, arI .sub left b.length) ?_ ?_
    ·
      exact ⟨st5.pick (.cons (s := 0) rfl trivial (.cons (s := 1) rfl trivial (.cons (s := 5) rfl trivial .nil))), Nat.zero_le _, nneg0 q0, arI_le hl.2, by rw [szRow, if_neg (by rw [q0]; decide)]; rfl⟩
    ·
      rintro ⟨k, n⟩ a6 w6 ⟨st6, hk, hn0, hn1, hrun⟩
      dsimp only at *
      refine wp_seq ?_
      refine wp_seq ?_
      refine region_seg st6 (.cons rfl (by decide) (.plain rfl (op_move rfl (opd_tmp rfl)))
        (.cons rfl (by decide) (.plain rfl (op_move rfl (opd_tmp rfl)))
        (.cons rfl (by decide) (.plain rfl (op_lenL rfl (by kernel_rfl) (opd_tmp rfl)))
        (.cons rfl (by decide) (.plain rfl (op_cmpI rfl (by decide) (opd_tmp rfl) (opd_tmp rfl)))
        .nil))))
        (.cons (s := 0) rfl trivial (.cons (s := 1) rfl trivial (.cons (s := 5) rfl trivial (.cons (s := 15) rfl trivial .nil)))) (fun a7 w7 e7 st7 => ?_)
      refine then_normal ?_
      refine cond_split (c := 15) st7 rfl (fun h2 => ?_) (fun h2 => ?_)
      ·
        obtain ⟨x, hx⟩ := idx_of h2
        have hlt := lt_of_get hx
        refine wp_skip ?_
        refine then_normal ?_
        refine wp_seq ?_
        refine wp_block ?_
        refine wp_seq ?_
        refine region_seg st7 (.cons rfl (by decide) (.plain rfl (op_move rfl (opd_tmp rfl)))
          (.cons rfl (by decide) (.plain rfl (op_move rfl (opd_tmp rfl)))
          (.cons rfl (by decide) (.plain rfl (op_indexE rfl (by kernel_rfl) (opd_tmp rfl) (opd_tmp rfl) rfl (by assumption)))
          (.cons rfl (by decide) (.plain rfl (op_load rfl (by kernel_rfl) (opd_tmp rfl)))
          (.cons rfl (by decide) (.plain rfl (op_move rfl (opd_tmp rfl)))
          (.cons rfl (by decide) (.plain rfl (op_call (l := [.tmp 21, .tmp 22]) rfl (by kernel_rfl) (.cons (opd_tmp rfl) (.cons (opd_tmp rfl) .nil)) (laws_szFile_ok _ _ ⟨by omega, hn1⟩)))
          (.cons rfl (by decide) (.plain rfl (op_assign rfl (opd_tmp rfl)))
          .nil)))))))
          (.cons (s := 0) rfl trivial (.cons (s := 1) rfl trivial (.cons (s := 5) rfl trivial (.cons (s := 15) rfl trivial .nil)))) (fun a8 w8 e8 st8 => ?_)
        refine then_normal ?_
        refine wp_seq ?_
        refine region_seg st8 (.cons rfl (by decide) (.plain rfl (op_move rfl (opd_tmp rfl)))
          (.cons rfl (by decide) (.plain rfl (op_cmpI rfl (by decide) (opd_tmp rfl) opd_int))
          .nil))
          (.cons (s := 0) rfl trivial (.cons (s := 1) rfl trivial (.cons (s := 5) rfl trivial (.cons (s := 15) rfl trivial (.cons (s := 25) rfl trivial .nil))))) (fun a9 w9 e9 st9 => ?_)
        refine then_normal ?_
        refine cond_split (c := 25) st9 rfl (fun h3 => ?_) (fun h3 => ?_)
        ·
          have q1 := h3
          refine wp_seq ?_
          refine region_seg st9 (.cons rfl (by decide) (.plain rfl (op_assign rfl opd_int))
            .nil)
            (.cons (s := 0) rfl trivial (.cons (s := 1) rfl trivial (.cons (s := 4) rfl trivial (.cons (s := 5) rfl trivial (.cons (s := 15) rfl trivial (.cons (s := 25) rfl trivial .nil)))))) (fun a10 w10 e10 st10 => ?_)
          refine then_normal ?_
          refine wp_ret (blk_ret (thn_ret (thn_ret (blk_ret (thn_ret ?_)))))
          refine ret_dtM rfl (fun _ h => h) st10 (t := 4) rfl ?_
          rw [← hrun, drop_at hx, szRest, if_pos q1]
        ·
          have q1 := h3
          refine wp_skip ?_
          refine blk_normal ?_
          refine then_normal ?_
          refine region_seg st9 (.cons rfl (by decide) (.plain rfl (op_move rfl (opd_tmp rfl)))
            (.cons rfl (by decide) (.plain rfl (op_arI rfl (by decide) (opd_tmp rfl) opd_int (by simp only [arI]; omega)))
            (.cons rfl (by decide) (.plain rfl (op_assign rfl (opd_tmp rfl)))
            .nil)))
            (.cons (s := 0) rfl trivial (.cons (s := 1) rfl trivial (.cons (s := 5) rfl trivial (.cons (s := 15) rfl trivial (.cons (s := 25) rfl trivial .nil))))) (fun a11 w11 e11 st11 => ?_)
          refine then_normal ⟨(k+1, szFile x n), ⟨st11.pick (.cons (s := 0) rfl trivial (.cons (s := 1) rfl trivial (.cons (s := 5) rfl trivial .nil))), by dsimp only; omega, nneg0 q1, szFile_le hn1, by dsimp only; rw [← hrun, drop_at hx]; exact (by rw [szRest, if_neg (by rw [q1]; decide)])⟩, by dsimp only; omega⟩
      ·
        have hend := end_of h2
        refine wp_exit (thn_exit (thn_exit (exit_here ?_)))
        refine then_normal ?_
        refine wp_seq ?_
        refine region_seg st7 (.cons rfl (by decide) (.plain rfl (op_move rfl (opd_tmp rfl)))
          (.cons rfl (by decide) (.plain rfl (op_assign rfl (opd_tmp rfl)))
          .nil))
          (.cons (s := 0) rfl trivial (.cons (s := 1) rfl trivial (.cons (s := 4) rfl trivial (.cons (s := 5) rfl trivial (.cons (s := 15) rfl trivial .nil))))) (fun a12 w12 e12 st12 => ?_)
        refine then_normal ?_
        refine wp_ret ?_
        refine ret_dtM rfl (fun _ h => h) st12 (t := 4) rfl ?_
        rw [← hrun, List.drop_of_length_le hend, szRest]

theorem laws_szTree_ok (t : Tree) (left : Int) (hl : -1 ≤ left ∧ left ≤ 1048576) : Fn Tryz.prog 8 [dt t, dt left] (dt (szTree t left)) := by
  refine fn_of_wp (fn := Tryz.f8) Tryz.func8 rfl (of_decide_eq_true rfl) (fun M w0 a0 hm st0 => ?_)
  refine wp_seq ?_
  refine region_seg st0 (.cons rfl (by decide) (.plain rfl (op_box rfl (opd_tmp rfl)))
    (.cons rfl (by decide) (.plain rfl (op_assign rfl opd_int))
    .nil))
    (.cons (s := 0) rfl trivial (.cons (s := 1) rfl trivial (.cons (s := 2) rfl trivial (.cons (s := 4) rfl trivial .nil)))) (fun a1 w1 e1 st1 => ?_)
  refine then_normal ?_
  refine wp_seq ?_
  refine region_seg st1 (.cons rfl (by decide) (.plain rfl (op_field Tree.fld0 rfl (by kernel_rfl) (opd_tmp rfl)))
    (.cons rfl (by decide) (.plain rfl (op_load rfl (by kernel_rfl) (opd_tmp rfl)))
    (.cons rfl (by decide) (.plain rfl (op_move rfl (opd_tmp rfl)))
    (.cons rfl (by decide) (.plain rfl (op_call (l := [.tmp 6, .tmp 7]) rfl (by kernel_rfl) (.cons (opd_tmp rfl) (.cons (opd_tmp rfl) .nil)) (laws_szFileS_ok _ _ hl)))
    (.cons rfl (by decide) (.plain rfl (op_assign rfl (opd_tmp rfl)))
    .nil)))))
    (.cons (s := 0) rfl trivial (.cons (s := 1) rfl trivial (.cons (s := 2) rfl trivial (.cons (s := 4) rfl trivial .nil)))) (fun a2 w2 e2 st2 => ?_)
  refine then_normal ?_
  refine wp_seq ?_
  refine wp_seq ?_
  refine region_seg st2 (.cons rfl (by decide) (.plain rfl (op_move rfl (opd_tmp rfl)))
    (.cons rfl (by decide) (.plain rfl (op_cmpI rfl (by decide) (opd_tmp rfl) opd_int))
    .nil))
    (.cons (s := 0) rfl trivial (.cons (s := 1) rfl trivial (.cons (s := 2) rfl trivial (.cons (s := 4) rfl trivial (.cons (s := 10) rfl trivial .nil))))) (fun a3 w3 e3 st3 => ?_)
  refine then_normal ?_
  refine cond_split (c := 10) st3 rfl (fun h1 => ?_) (fun h1 => ?_)
  ·
    have q0 := h1
    refine wp_seq ?_
    refine region_seg st3 (.cons rfl (by decide) (.plain rfl (op_assign rfl opd_int))
      .nil)
      (.cons (s := 0) rfl trivial (.cons (s := 1) rfl trivial (.cons (s := 2) rfl trivial (.cons (s := 4) rfl trivial (.cons (s := 10) rfl trivial .nil))))) (fun a4 w4 e4 st4 => ?_)
    refine then_normal ?_
    refine wp_ret (thn_ret ?_)
    refine ret_dtM rfl (fun _ h => h) st4 (t := 4) rfl ?_
    rw [szTree, if_pos q0]
  ·
    have q0 := h1
    refine wp_skip ?_
    refine then_normal ?_
    refine wp_seq ?_
    refine region_seg st3 (.cons rfl (by decide) (.plain rfl (op_move rfl (opd_tmp rfl)))
      (.cons rfl (by decide) (.plain rfl (op_assign rfl (opd_tmp rfl)))
      .nil))
      (.cons (s := 0) rfl trivial (.cons (s := 1) rfl trivial (.cons (s := 2) rfl trivial (.cons (s := 4) rfl trivial (.cons (s := 10) rfl trivial .nil))))) (fun a5 w5 e5 st5 => ?_)
    refine then_normal ?_
    refine wp_ret ?_
    refine ret_dtM rfl (fun _ h => h) st5 (t := 4) rfl ?_
    rw [szTree, if_neg (by rw [q0]; decide)]

end Go.Proofs.YtionokffhhiicaaGreatDoor

namespace Go.Proofs.YtionokffhhiicaaGreatDoor
open Go.RowKit
set_option maxRecDepth 10000

theorem laws_eqStmt_ok (x y : Stmt) : Fn Tryz.prog 180 [dt x, dt y] (dt (decide (x = y))) := by
  refine fn_of_wp (fn := Tryz.f180) Tryz.func180 rfl (of_decide_eq_true rfl) (fun M w0 a0 hm st0 => ?_)
  refine wp_seq ?_
  refine region_seg st0 (.cons rfl (by decide) (.plain rfl (op_box rfl (opd_tmp rfl)))
    (.cons rfl (by decide) (.plain rfl (op_box rfl (opd_tmp rfl)))
    (.cons rfl (by decide) (.plain rfl (op_assign rfl opd_bool))
    .nil)))
    (.cons (s := 0) rfl trivial (.cons (s := 1) rfl trivial (.cons (s := 2) rfl trivial (.cons (s := 3) rfl trivial (.cons (s := 4) rfl trivial .nil))))) (fun a1 w1 e1 st1 => ?_)
  refine then_normal ?_
  refine wp_seq ?_
  refine wp_seq ?_
  refine region_seg st1 (.cons rfl (by decide) (.plain rfl (op_field Stmt.fld0 rfl (by kernel_rfl) (opd_tmp rfl)))
    (.cons rfl (by decide) (.plain rfl (op_load rfl (by kernel_rfl) (opd_tmp rfl)))
    (.cons rfl (by decide) (.plain rfl (op_field Stmt.fld0 rfl (by kernel_rfl) (opd_tmp rfl)))
    (.cons rfl (by decide) (.plain rfl (op_load rfl (by kernel_rfl) (opd_tmp rfl)))
    (.cons rfl (by decide) (.plain rfl (op_cmpI rfl (by decide) (opd_tmp rfl) (opd_tmp rfl)))
    .nil)))))
    (.cons (s := 0) rfl trivial (.cons (s := 1) rfl trivial (.cons (s := 2) rfl trivial (.cons (s := 3) rfl trivial (.cons (s := 4) rfl trivial (.cons (s := 9) rfl trivial .nil)))))) (fun a2 w2 e2 st2 => ?_)
  refine then_normal ?_
  refine cond_split (c := 9) st2 rfl (fun h1 => ?_) (fun h1 => ?_)
  ·
    have q0 := h1
    refine wp_seq ?_
    refine region_seg st2 (.cons rfl (by decide) (.plain rfl (op_assign rfl opd_bool))
      .nil)
      (.cons (s := 0) rfl trivial (.cons (s := 1) rfl trivial (.cons (s := 2) rfl trivial (.cons (s := 3) rfl trivial (.cons (s := 4) rfl trivial (.cons (s := 9) rfl trivial .nil)))))) (fun a3 w3 e3 st3 => ?_)
    refine then_normal ?_
    refine wp_ret (thn_ret ?_)
    refine ret_dtM rfl (fun _ h => h) st3 (t := 4) rfl ?_
    exact (decide_eq_false (fun e => by subst e; simp [cmpI] at q0)).symm
  ·
    have q0 := h1
    refine wp_skip ?_
    refine then_normal ?_
    refine wp_seq ?_
    refine wp_seq ?_
    refine region_seg st2 (.cons rfl (by decide) (.plain rfl (op_field Stmt.fld1 rfl (by kernel_rfl) (opd_tmp rfl)))
      (.cons rfl (by decide) (.plain rfl (op_load rfl (by kernel_rfl) (opd_tmp rfl)))
      (.cons rfl (by decide) (.plain rfl (op_field Stmt.fld1 rfl (by kernel_rfl) (opd_tmp rfl)))
      (.cons rfl (by decide) (.plain rfl (op_load rfl (by kernel_rfl) (opd_tmp rfl)))
      (.cons rfl (by decide) (.plain rfl (op_neS rfl (opd_tmp rfl) (opd_tmp rfl)))
      .nil)))))
      (.cons (s := 0) rfl trivial (.cons (s := 1) rfl trivial (.cons (s := 2) rfl trivial (.cons (s := 3) rfl trivial (.cons (s := 4) rfl trivial (.cons (s := 9) rfl trivial (.cons (s := 14) rfl trivial .nil))))))) (fun a4 w4 e4 st4 => ?_)
    refine then_normal ?_
    refine cond_split (c := 14) st4 rfl (fun h2 => ?_) (fun h2 => ?_)
    ·
      have q1 := h2
      refine wp_seq ?_
      refine region_seg st4 (.cons rfl (by decide) (.plain rfl (op_assign rfl opd_bool))
        .nil)
        (.cons (s := 0) rfl trivial (.cons (s := 1) rfl trivial (.cons (s := 2) rfl trivial (.cons (s := 3) rfl trivial (.cons (s := 4) rfl trivial (.cons (s := 9) rfl trivial (.cons (s := 14) rfl trivial .nil))))))) (fun a5 w5 e5 st5 => ?_)
      refine then_normal ?_
      refine wp_ret (thn_ret ?_)
      refine ret_dtM rfl (fun _ h => h) st5 (t := 4) rfl ?_
      exact (decide_eq_false (fun e => by subst e; simp [cmpI] at q1)).symm
    ·
      have q1 := h2
      refine wp_skip ?_
      refine then_normal ?_
      refine wp_seq ?_
      refine wp_seq ?_
      refine region_seg st4 (.cons rfl (by decide) (.plain rfl (op_field Stmt.fld2 rfl (by kernel_rfl) (opd_tmp rfl)))
        (.cons rfl (by decide) (.plain rfl (op_load rfl (by kernel_rfl) (opd_tmp rfl)))
        (.cons rfl (by decide) (.plain rfl (op_field Stmt.fld2 rfl (by kernel_rfl) (opd_tmp rfl)))
        (.cons rfl (by decide) (.plain rfl (op_load rfl (by kernel_rfl) (opd_tmp rfl)))
        (.cons rfl (by decide) (.plain rfl (op_cmpI rfl (by decide) (opd_tmp rfl) (opd_tmp rfl)))
        .nil)))))
        (.cons (s := 0) rfl trivial (.cons (s := 1) rfl trivial (.cons (s := 2) rfl trivial (.cons (s := 3) rfl trivial (.cons (s := 4) rfl trivial (.cons (s := 9) rfl trivial (.cons (s := 14) rfl trivial (.cons (s := 19) rfl trivial .nil)))))))) (fun a6 w6 e6 st6 => ?_)
      refine then_normal ?_
      refine cond_split (c := 19) st6 rfl (fun h3 => ?_) (fun h3 => ?_)
      ·
        have q2 := h3
        refine wp_seq ?_
        refine region_seg st6 (.cons rfl (by decide) (.plain rfl (op_assign rfl opd_bool))
          .nil)
          (.cons (s := 0) rfl trivial (.cons (s := 1) rfl trivial (.cons (s := 2) rfl trivial (.cons (s := 3) rfl trivial (.cons (s := 4) rfl trivial (.cons (s := 9) rfl trivial (.cons (s := 14) rfl trivial (.cons (s := 19) rfl trivial .nil)))))))) (fun a7 w7 e7 st7 => ?_)
        refine then_normal ?_
        refine wp_ret (thn_ret ?_)
        refine ret_dtM rfl (fun _ h => h) st7 (t := 4) rfl ?_
        exact (decide_eq_false (fun e => by subst e; simp [cmpI] at q2)).symm
      ·
        have q2 := h3
        refine wp_skip ?_
        refine then_normal ?_
        refine wp_seq ?_
        refine wp_seq ?_
        refine region_seg st6 (.cons rfl (by decide) (.plain rfl (op_field Stmt.fld3 rfl (by kernel_rfl) (opd_tmp rfl)))
          (.cons rfl (by decide) (.plain rfl (op_load rfl (by kernel_rfl) (opd_tmp rfl)))
          (.cons rfl (by decide) (.plain rfl (op_field Stmt.fld3 rfl (by kernel_rfl) (opd_tmp rfl)))
          (.cons rfl (by decide) (.plain rfl (op_load rfl (by kernel_rfl) (opd_tmp rfl)))
          (.cons rfl (by decide) (.plain rfl (op_neS rfl (opd_tmp rfl) (opd_tmp rfl)))
          .nil)))))
          (.cons (s := 0) rfl trivial (.cons (s := 1) rfl trivial (.cons (s := 2) rfl trivial (.cons (s := 3) rfl trivial (.cons (s := 4) rfl trivial (.cons (s := 9) rfl trivial (.cons (s := 14) rfl trivial (.cons (s := 19) rfl trivial (.cons (s := 24) rfl trivial .nil))))))))) (fun a8 w8 e8 st8 => ?_)
        refine then_normal ?_
        refine cond_split (c := 24) st8 rfl (fun h4 => ?_) (fun h4 => ?_)
        ·
          have q3 := h4
          refine wp_seq ?_
          refine region_seg st8 (.cons rfl (by decide) (.plain rfl (op_assign rfl opd_bool))
            .nil)
            (.cons (s := 0) rfl trivial (.cons (s := 1) rfl trivial (.cons (s := 2) rfl trivial (.cons (s := 3) rfl trivial (.cons (s := 4) rfl trivial (.cons (s := 9) rfl trivial (.cons (s := 14) rfl trivial (.cons (s := 19) rfl trivial (.cons (s := 24) rfl trivial .nil))))))))) (fun a9 w9 e9 st9 => ?_)
          refine then_normal ?_
          refine wp_ret (thn_ret ?_)
          refine ret_dtM rfl (fun _ h => h) st9 (t := 4) rfl ?_
          exact (decide_eq_false (fun e => by subst e; simp [cmpI] at q3)).symm
        ·
          have q3 := h4
          refine wp_skip ?_
          refine then_normal ?_
          refine wp_seq ?_
          refine wp_seq ?_
          refine region_seg st8 (.cons rfl (by decide) (.plain rfl (op_field Stmt.fld4 rfl (by kernel_rfl) (opd_tmp rfl)))
            (.cons rfl (by decide) (.plain rfl (op_load rfl (by kernel_rfl) (opd_tmp rfl)))
            (.cons rfl (by decide) (.plain rfl (op_field Stmt.fld4 rfl (by kernel_rfl) (opd_tmp rfl)))
            (.cons rfl (by decide) (.plain rfl (op_load rfl (by kernel_rfl) (opd_tmp rfl)))
            (.cons rfl (by decide) (.plain rfl (op_cmpI rfl (by decide) (opd_tmp rfl) (opd_tmp rfl)))
            .nil)))))
            (.cons (s := 0) rfl trivial (.cons (s := 1) rfl trivial (.cons (s := 2) rfl trivial (.cons (s := 3) rfl trivial (.cons (s := 4) rfl trivial (.cons (s := 9) rfl trivial (.cons (s := 14) rfl trivial (.cons (s := 19) rfl trivial (.cons (s := 24) rfl trivial (.cons (s := 29) rfl trivial .nil)))))))))) (fun a10 w10 e10 st10 => ?_)
          refine then_normal ?_
          refine cond_split (c := 29) st10 rfl (fun h5 => ?_) (fun h5 => ?_)
          ·
            have q4 := h5
            refine wp_seq ?_
            refine region_seg st10 (.cons rfl (by decide) (.plain rfl (op_assign rfl opd_bool))
              .nil)
              (.cons (s := 0) rfl trivial (.cons (s := 1) rfl trivial (.cons (s := 2) rfl trivial (.cons (s := 3) rfl trivial (.cons (s := 4) rfl trivial (.cons (s := 9) rfl trivial (.cons (s := 14) rfl trivial (.cons (s := 19) rfl trivial (.cons (s := 24) rfl trivial (.cons (s := 29) rfl trivial .nil)))))))))) (fun a11 w11 e11 st11 => ?_)
            refine then_normal ?_
            refine wp_ret (thn_ret ?_)
            refine ret_dtM rfl (fun _ h => h) st11 (t := 4) rfl ?_
            exact (decide_eq_false (fun e => by subst e; simp [cmpI] at q4)).symm
          ·
            have q4 := h5
            refine wp_skip ?_
            refine then_normal ?_
            refine wp_seq ?_
            refine region_seg st10 (.cons rfl (by decide) (.plain rfl (op_assign rfl opd_bool))
              .nil)
              (.cons (s := 0) rfl trivial (.cons (s := 1) rfl trivial (.cons (s := 2) rfl trivial (.cons (s := 3) rfl trivial (.cons (s := 4) rfl trivial (.cons (s := 9) rfl trivial (.cons (s := 14) rfl trivial (.cons (s := 19) rfl trivial (.cons (s := 24) rfl trivial (.cons (s := 29) rfl trivial .nil)))))))))) (fun a12 w12 e12 st12 => ?_)
            refine then_normal ?_
            refine wp_ret ?_
            refine ret_dtM rfl (fun _ h => h) st12 (t := 4) rfl ?_
            exact (decide_eq_true (eqStmt_of q0 q1 q2 q3 q4)).symm

theorem laws_eqStmtS_ok (l m : List Stmt) : Fn Tryz.prog 153 [dt l, dt m] (dt (decide (l = m))) := by
  refine fn_of_wp (fn := Tryz.f153) Tryz.func153 rfl (of_decide_eq_true rfl) (fun M w0 a0 hm st0 => ?_)
  have hlen := st0.lenL (s := 0) rfl
  refine wp_seq ?_
  refine region_seg st0 (.cons rfl (by decide) (.plain rfl (op_assign rfl opd_bool))
    .nil)
    (.cons (s := 0) rfl trivial (.cons (s := 1) rfl trivial (.cons (s := 4) rfl trivial .nil))) (fun a1 w1 e1 st1 => ?_)
  refine then_normal ?_
  refine wp_seq ?_
  refine wp_seq ?_
  refine region_seg st1 (.cons rfl (by decide) (.plain rfl (op_move rfl (opd_tmp rfl)))
    (.cons rfl (by decide) (.plain rfl (op_lenL rfl (by kernel_rfl) (opd_tmp rfl)))
    (.cons rfl (by decide) (.plain rfl (op_move rfl (opd_tmp rfl)))
    (.cons rfl (by decide) (.plain rfl (op_lenL rfl (by kernel_rfl) (opd_tmp rfl)))
    (.cons rfl (by decide) (.plain rfl (op_cmpI rfl (by decide) (opd_tmp rfl) (opd_tmp rfl)))
    .nil)))))
    (.cons (s := 0) rfl trivial (.cons (s := 1) rfl trivial (.cons (s := 4) rfl trivial (.cons (s := 10) rfl trivial .nil)))) (fun a2 w2 e2 st2 => ?_)
  refine then_normal ?_
  refine cond_split (c := 10) st2 rfl (fun h1 => ?_) (fun h1 => ?_)
  ·
    have hd := h1
    refine wp_seq ?_
    refine region_seg st2 (.cons rfl (by decide) (.plain rfl (op_assign rfl opd_bool))
      .nil)
      (.cons (s := 0) rfl trivial (.cons (s := 1) rfl trivial (.cons (s := 4) rfl trivial (.cons (s := 10) rfl trivial .nil)))) (fun a3 w3 e3 st3 => ?_)
    refine then_normal ?_
    refine wp_ret (thn_ret ?_)
    refine ret_dtM rfl (fun _ h => h) st3 (t := 4) rfl ?_
    exact (decide_eq_false (fun e => by subst e; simp [cmpI] at hd)).symm
  ·
    have hd : l.length = m.length := by have := h1; simp only [cmpI, bne_eq_false_iff_eq] at this; omega
    refine wp_skip ?_
    refine then_normal ?_
    refine wp_seq ?_
    refine wp_seq ?_
    refine region_seg st2 (.cons rfl (by decide) (.plain rfl (op_assign rfl opd_int))
      .nil)
      (.cons (s := 0) rfl trivial (.cons (s := 1) rfl trivial (.cons (s := 4) rfl trivial (.cons (s := 5) rfl trivial (.cons (s := 10) rfl trivial .nil))))) (fun a4 w4 e4 st4 => ?_)
    refine then_normal ?_
    refine wp_block ?_
    refine loop_st (ι := Nat) (fun k a w => St (Frm.of w0) 27 M [(0, dt l), (1, dt m), (5, dt (k : Int))] a w ∧ k ≤ l.length ∧ l.take k = m.take k) (fun k => l.length - k) 0 ?_ ?_
    ·
      exact ⟨st4.pick (.cons (s := 0) rfl trivial (.cons (s := 1) rfl trivial (.cons (s := 5) rfl trivial .nil))), Nat.zero_le _, rfl⟩
    ·
      rintro k a5 w5 ⟨st5, hk, hp⟩
      refine wp_seq ?_
      refine wp_seq ?_
      refine region_seg st5 (.cons rfl (by decide) (.plain rfl (op_move rfl (opd_tmp rfl)))
        (.cons rfl (by decide) (.plain rfl (op_move rfl (opd_tmp rfl)))
        (.cons rfl (by decide) (.plain rfl (op_lenL rfl (by kernel_rfl) (opd_tmp rfl)))
        (.cons rfl (by decide) (.plain rfl (op_cmpI rfl (by decide) (opd_tmp rfl) (opd_tmp rfl)))
        .nil))))
        (.cons (s := 0) rfl trivial (.cons (s := 1) rfl trivial (.cons (s := 5) rfl trivial (.cons (s := 14) rfl trivial .nil)))) (fun a6 w6 e6 st6 => ?_)
      refine then_normal ?_
      refine cond_split (c := 14) st6 rfl (fun h2 => ?_) (fun h2 => ?_)
      ·
        obtain ⟨x, hx⟩ := idx_of h2
        have hlt := lt_of_get hx
        obtain ⟨y, hy⟩ := same_get hd hx
        refine wp_skip ?_
        refine then_normal ?_
        refine wp_seq ?_
        refine wp_block ?_
        refine wp_seq ?_
        refine region_any Tryz_mixed [[], [], [0, 1], [0, 1, 2], [], [], [4, 5], [4, 5, 6], [0, 1, 2, 3, 4, 5, 6, 7], [0, 1, 2, 3, 4, 5, 6, 7, 8]] [[(0, none)], [(5, none)], [(17, some 0), (18, some 1)], [(19, some 2)], [(1, none)], [(5, none)], [(21, some 4), (22, some 5)], [(23, some 6)], [(20, some 3), (24, some 7)], [(25, some 8)]] (by decide +kernel) st6 (D := [_, _, _, _, _, _, _, _, _, _])
          (.cons rfl (by decide) rfl (.plain rfl (op_move rfl (opd_tmp rfl)))
          (.cons rfl (by decide) rfl (.plain rfl (op_move rfl (opd_tmp rfl)))
          (.cons rfl (by decide) rfl (.plain rfl (op_indexE rfl (by kernel_rfl) (opd_tmp rfl) (opd_tmp rfl) rfl hx))
          (.cons rfl (by decide) rfl (.plain rfl (op_load rfl (by kernel_rfl) (opd_tmp rfl)))
          (.cons rfl (by decide) rfl (.plain rfl (op_move rfl (opd_tmp rfl)))
          (.cons rfl (by decide) rfl (.plain rfl (op_move rfl (opd_tmp rfl)))
          (.cons rfl (by decide) rfl (.plain rfl (op_indexE rfl (by kernel_rfl) (opd_tmp rfl) (opd_tmp rfl) rfl hy))
          (.cons rfl (by decide) rfl (.plain rfl (op_load rfl (by kernel_rfl) (opd_tmp rfl)))
          (.cons rfl (by decide) rfl (.plain rfl (op_call (l := [.tmp 20, .tmp 24]) rfl (by kernel_rfl) (.cons (opd_tmp rfl) (.cons (opd_tmp rfl) .nil)) (laws_eqStmt_ok _ _)))
          (.cons rfl (by decide) rfl (.plain rfl (op_not rfl (opd_tmp rfl)))
          .nil))))))))))
          (.cons (s := 0) rfl trivial (.cons (s := 1) rfl trivial (.cons (s := 5) rfl trivial (.cons (s := 14) rfl trivial (.cons (s := 26) rfl trivial .nil))))) (fun a7 w7 e7 st7 => ?_)
        refine then_normal ?_
        refine cond_split (c := 26) st7 rfl (fun h3 => ?_) (fun h3 => ?_)
        ·
          have ht := h3
          refine wp_seq ?_
          refine region_seg st7 (.cons rfl (by decide) (.plain rfl (op_assign rfl opd_bool))
            .nil)
            (.cons (s := 0) rfl trivial (.cons (s := 1) rfl trivial (.cons (s := 4) rfl trivial (.cons (s := 5) rfl trivial (.cons (s := 14) rfl trivial (.cons (s := 26) rfl trivial .nil)))))) (fun a8 w8 e8 st8 => ?_)
          refine then_normal ?_
          refine wp_ret (blk_ret (thn_ret (thn_ret (blk_ret (thn_ret ?_)))))
          refine ret_dtM rfl (fun _ h => h) st8 (t := 4) rfl ?_
          exact (takeE_ne hx hy (by simpa using ht)).symm
        ·
          have hf := h3
          refine wp_skip ?_
          refine blk_normal ?_
          refine then_normal ?_
          refine region_seg st7 (.cons rfl (by decide) (.plain rfl (op_move rfl (opd_tmp rfl)))
            (.cons rfl (by decide) (.plain rfl (op_arI rfl (by decide) (opd_tmp rfl) opd_int (by simp only [arI]; omega)))
            (.cons rfl (by decide) (.plain rfl (op_assign rfl (opd_tmp rfl)))
            .nil)))
            (.cons (s := 0) rfl trivial (.cons (s := 1) rfl trivial (.cons (s := 5) rfl trivial (.cons (s := 14) rfl trivial (.cons (s := 26) rfl trivial .nil))))) (fun a9 w9 e9 st9 => ?_)
          refine then_normal ⟨k+1, ⟨st9.pick (.cons (s := 0) rfl trivial (.cons (s := 1) rfl trivial (.cons (s := 5) rfl trivial .nil))), by omega, takeE_next hp hx hy (by simpa using hf)⟩, by omega⟩
      ·
        have hend := end_of h2
        refine wp_exit (thn_exit (thn_exit (exit_here ?_)))
        refine then_normal ?_
        refine wp_seq ?_
        refine region_seg st6 (.cons rfl (by decide) (.plain rfl (op_assign rfl opd_bool))
          .nil)
          (.cons (s := 0) rfl trivial (.cons (s := 1) rfl trivial (.cons (s := 4) rfl trivial (.cons (s := 5) rfl trivial (.cons (s := 14) rfl trivial .nil))))) (fun a10 w10 e10 st10 => ?_)
        refine then_normal ?_
        refine wp_ret ?_
        refine ret_dtM rfl (fun _ h => h) st10 (t := 4) rfl ?_
        exact (decide_eq_true (takeE_end hd hend hp)).symm

theorem laws_eqFile_ok (x y : File) : Fn Tryz.prog 114 [dt x, dt y] (dt (decide (x = y))) := by
  refine fn_of_wp (fn := Tryz.f114) Tryz.func114 rfl (of_decide_eq_true rfl) (fun M w0 a0 hm st0 => ?_)
  refine wp_seq ?_
  refine region_seg st0 (.cons rfl (by decide) (.plain rfl (op_box rfl (opd_tmp rfl)))
    (.cons rfl (by decide) (.plain rfl (op_box rfl (opd_tmp rfl)))
    (.cons rfl (by decide) (.plain rfl (op_assign rfl opd_bool))
    .nil)))
    (.cons (s := 0) rfl trivial (.cons (s := 1) rfl trivial (.cons (s := 2) rfl trivial (.cons (s := 3) rfl trivial (.cons (s := 4) rfl trivial .nil))))) (fun a1 w1 e1 st1 => ?_)
  refine then_normal ?_
  refine wp_seq ?_
  refine wp_seq ?_
  refine region_seg st1 (.cons rfl (by decide) (.plain rfl (op_field File.fld0 rfl (by kernel_rfl) (opd_tmp rfl)))
    (.cons rfl (by decide) (.plain rfl (op_load rfl (by kernel_rfl) (opd_tmp rfl)))
    (.cons rfl (by decide) (.plain rfl (op_field File.fld0 rfl (by kernel_rfl) (opd_tmp rfl)))
    (.cons rfl (by decide) (.plain rfl (op_load rfl (by kernel_rfl) (opd_tmp rfl)))
    (.cons rfl (by decide) (.plain rfl (op_cmpI rfl (by decide) (opd_tmp rfl) (opd_tmp rfl)))
    .nil)))))
    (.cons (s := 0) rfl trivial (.cons (s := 1) rfl trivial (.cons (s := 2) rfl trivial (.cons (s := 3) rfl trivial (.cons (s := 4) rfl trivial (.cons (s := 9) rfl trivial .nil)))))) (fun a2 w2 e2 st2 => ?_)
  refine then_normal ?_
  refine cond_split (c := 9) st2 rfl (fun h1 => ?_) (fun h1 => ?_)
  ·
    have q0 := h1
    refine wp_seq ?_
    refine region_seg st2 (.cons rfl (by decide) (.plain rfl (op_assign rfl opd_bool))
      .nil)
      (.cons (s := 0) rfl trivial (.cons (s := 1) rfl trivial (.cons (s := 2) rfl trivial (.cons (s := 3) rfl trivial (.cons (s := 4) rfl trivial (.cons (s := 9) rfl trivial .nil)))))) (fun a3 w3 e3 st3 => ?_)
    refine then_normal ?_
    refine wp_ret (thn_ret ?_)
    refine ret_dtM rfl (fun _ h => h) st3 (t := 4) rfl ?_
    exact (decide_eq_false (fun e => by subst e; simp [cmpI] at q0)).symm
  ·
    have q0 := h1
    refine wp_skip ?_
    refine then_normal ?_
    refine wp_seq ?_
    refine wp_seq ?_
    refine region_seg st2 (.cons rfl (by decide) (.plain rfl (op_field File.fld1 rfl (by kernel_rfl) (opd_tmp rfl)))
      (.cons rfl (by decide) (.plain rfl (op_load rfl (by kernel_rfl) (opd_tmp rfl)))
      (.cons rfl (by decide) (.plain rfl (op_field File.fld1 rfl (by kernel_rfl) (opd_tmp rfl)))
      (.cons rfl (by decide) (.plain rfl (op_load rfl (by kernel_rfl) (opd_tmp rfl)))
      (.cons rfl (by decide) (.plain rfl (op_neS rfl (opd_tmp rfl) (opd_tmp rfl)))
      .nil)))))
      (.cons (s := 0) rfl trivial (.cons (s := 1) rfl trivial (.cons (s := 2) rfl trivial (.cons (s := 3) rfl trivial (.cons (s := 4) rfl trivial (.cons (s := 9) rfl trivial (.cons (s := 14) rfl trivial .nil))))))) (fun a4 w4 e4 st4 => ?_)
    refine then_normal ?_
    refine cond_split (c := 14) st4 rfl (fun h2 => ?_) (fun h2 => ?_)
    ·
      have q1 := h2
      refine wp_seq ?_
      refine region_seg st4 (.cons rfl (by decide) (.plain rfl (op_assign rfl opd_bool))
        .nil)
        (.cons (s := 0) rfl trivial (.cons (s := 1) rfl trivial (.cons (s := 2) rfl trivial (.cons (s := 3) rfl trivial (.cons (s := 4) rfl trivial (.cons (s := 9) rfl trivial (.cons (s := 14) rfl trivial .nil))))))) (fun a5 w5 e5 st5 => ?_)
      refine then_normal ?_
      refine wp_ret (thn_ret ?_)
      refine ret_dtM rfl (fun _ h => h) st5 (t := 4) rfl ?_
      exact (decide_eq_false (fun e => by subst e; simp [cmpI] at q1)).symm
    ·
      have q1 := h2
      refine wp_skip ?_
      refine then_normal ?_
      refine wp_seq ?_
      refine wp_seq ?_
      refine region_seg st4 (.cons rfl (by decide) (.plain rfl (op_field File.fld2 rfl (by kernel_rfl) (opd_tmp rfl)))
        (.cons rfl (by decide) (.plain rfl (op_load rfl (by kernel_rfl) (opd_tmp rfl)))
        (.cons rfl (by decide) (.plain rfl (op_field File.fld2 rfl (by kernel_rfl) (opd_tmp rfl)))
        (.cons rfl (by decide) (.plain rfl (op_load rfl (by kernel_rfl) (opd_tmp rfl)))
        (.cons rfl (by decide) (.plain rfl (op_neS rfl (opd_tmp rfl) (opd_tmp rfl)))
        .nil)))))
        (.cons (s := 0) rfl trivial (.cons (s := 1) rfl trivial (.cons (s := 2) rfl trivial (.cons (s := 3) rfl trivial (.cons (s := 4) rfl trivial (.cons (s := 9) rfl trivial (.cons (s := 14) rfl trivial (.cons (s := 19) rfl trivial .nil)))))))) (fun a6 w6 e6 st6 => ?_)
      refine then_normal ?_
      refine cond_split (c := 19) st6 rfl (fun h3 => ?_) (fun h3 => ?_)
      ·
        have q2 := h3
        refine wp_seq ?_
        refine region_seg st6 (.cons rfl (by decide) (.plain rfl (op_assign rfl opd_bool))
          .nil)
          (.cons (s := 0) rfl trivial (.cons (s := 1) rfl trivial (.cons (s := 2) rfl trivial (.cons (s := 3) rfl trivial (.cons (s := 4) rfl trivial (.cons (s := 9) rfl trivial (.cons (s := 14) rfl trivial (.cons (s := 19) rfl trivial .nil)))))))) (fun a7 w7 e7 st7 => ?_)
        refine then_normal ?_
        refine wp_ret (thn_ret ?_)
        refine ret_dtM rfl (fun _ h => h) st7 (t := 4) rfl ?_
        exact (decide_eq_false (fun e => by subst e; simp [cmpI] at q2)).symm
      ·
        have q2 := h3
        refine wp_skip ?_
        refine then_normal ?_
        refine wp_seq ?_
        refine wp_seq ?_
        refine region_seg st6 (.cons rfl (by decide) (.plain rfl (op_field File.fld3 rfl (by kernel_rfl) (opd_tmp rfl)))
          (.cons rfl (by decide) (.plain rfl (op_load rfl (by kernel_rfl) (opd_tmp rfl)))
          (.cons rfl (by decide) (.plain rfl (op_field File.fld3 rfl (by kernel_rfl) (opd_tmp rfl)))
          (.cons rfl (by decide) (.plain rfl (op_load rfl (by kernel_rfl) (opd_tmp rfl)))
          (.cons rfl (by decide) (.plain rfl (op_neT rfl (by kernel_rfl) (opd_tmp rfl) (opd_tmp rfl)))
          .nil)))))
          (.cons (s := 0) rfl trivial (.cons (s := 1) rfl trivial (.cons (s := 2) rfl trivial (.cons (s := 3) rfl trivial (.cons (s := 4) rfl trivial (.cons (s := 9) rfl trivial (.cons (s := 14) rfl trivial (.cons (s := 19) rfl trivial (.cons (s := 24) rfl trivial .nil))))))))) (fun a8 w8 e8 st8 => ?_)
        refine then_normal ?_
        refine cond_split (c := 24) st8 rfl (fun h4 => ?_) (fun h4 => ?_)
        ·
          have q3 := h4
          refine wp_seq ?_
          refine region_seg st8 (.cons rfl (by decide) (.plain rfl (op_assign rfl opd_bool))
            .nil)
            (.cons (s := 0) rfl trivial (.cons (s := 1) rfl trivial (.cons (s := 2) rfl trivial (.cons (s := 3) rfl trivial (.cons (s := 4) rfl trivial (.cons (s := 9) rfl trivial (.cons (s := 14) rfl trivial (.cons (s := 19) rfl trivial (.cons (s := 24) rfl trivial .nil))))))))) (fun a9 w9 e9 st9 => ?_)
          refine then_normal ?_
          refine wp_ret (thn_ret ?_)
          refine ret_dtM rfl (fun _ h => h) st9 (t := 4) rfl ?_
          exact (decide_eq_false (fun e => by subst e; simp [cmpI] at q3)).symm
        ·
          have q3 := h4
          refine wp_skip ?_
          refine then_normal ?_
          refine wp_seq ?_
          refine wp_seq ?_
          refine region_seg st8 (.cons rfl (by decide) (.plain rfl (op_field File.fld4 rfl (by kernel_rfl) (opd_tmp rfl)))
            (.cons rfl (by decide) (.plain rfl (op_load rfl (by kernel_rfl) (opd_tmp rfl)))
            (.cons rfl (by decide) (.plain rfl (op_field File.fld4 rfl (by kernel_rfl) (opd_tmp rfl)))
            (.cons rfl (by decide) (.plain rfl (op_load rfl (by kernel_rfl) (opd_tmp rfl)))
            (.cons rfl (by decide) (.plain rfl (op_cmpI rfl (by decide) (opd_tmp rfl) (opd_tmp rfl)))
            .nil)))))
            (.cons (s := 0) rfl trivial (.cons (s := 1) rfl trivial (.cons (s := 2) rfl trivial (.cons (s := 3) rfl trivial (.cons (s := 4) rfl trivial (.cons (s := 9) rfl trivial (.cons (s := 14) rfl trivial (.cons (s := 19) rfl trivial (.cons (s := 24) rfl trivial (.cons (s := 29) rfl trivial .nil)))))))))) (fun a10 w10 e10 st10 => ?_)
          refine then_normal ?_
          refine cond_split (c := 29) st10 rfl (fun h5 => ?_) (fun h5 => ?_)
          ·
            have q4 := h5
            refine wp_seq ?_
            refine region_seg st10 (.cons rfl (by decide) (.plain rfl (op_assign rfl opd_bool))
              .nil)
              (.cons (s := 0) rfl trivial (.cons (s := 1) rfl trivial (.cons (s := 2) rfl trivial (.cons (s := 3) rfl trivial (.cons (s := 4) rfl trivial (.cons (s := 9) rfl trivial (.cons (s := 14) rfl trivial (.cons (s := 19) rfl trivial (.cons (s := 24) rfl trivial (.cons (s := 29) rfl trivial .nil)))))))))) (fun a11 w11 e11 st11 => ?_)
            refine then_normal ?_
            refine wp_ret (thn_ret ?_)
            refine ret_dtM rfl (fun _ h => h) st11 (t := 4) rfl ?_
            exact (decide_eq_false (fun e => by subst e; simp [cmpI] at q4)).symm
          ·
            have q4 := h5
            refine wp_skip ?_
            refine then_normal ?_
            refine wp_seq ?_
            refine wp_seq ?_
            refine region_seg st10 (.cons rfl (by decide) (.plain rfl (op_field File.fld5 rfl (by kernel_rfl) (opd_tmp rfl)))
              (.cons rfl (by decide) (.plain rfl (op_load rfl (by kernel_rfl) (opd_tmp rfl)))
              (.cons rfl (by decide) (.plain rfl (op_field File.fld5 rfl (by kernel_rfl) (opd_tmp rfl)))
              (.cons rfl (by decide) (.plain rfl (op_load rfl (by kernel_rfl) (opd_tmp rfl)))
              (.cons rfl (by decide) (.plain rfl (op_call (l := [.tmp 31, .tmp 33]) rfl (by kernel_rfl) (.cons (opd_tmp rfl) (.cons (opd_tmp rfl) .nil)) (laws_eqStmtS_ok _ _)))
              (.cons rfl (by decide) (.plain rfl (op_not rfl (opd_tmp rfl)))
              .nil))))))
              (.cons (s := 0) rfl trivial (.cons (s := 1) rfl trivial (.cons (s := 2) rfl trivial (.cons (s := 3) rfl trivial (.cons (s := 4) rfl trivial (.cons (s := 9) rfl trivial (.cons (s := 14) rfl trivial (.cons (s := 19) rfl trivial (.cons (s := 24) rfl trivial (.cons (s := 29) rfl trivial (.cons (s := 35) rfl trivial .nil))))))))))) (fun a12 w12 e12 st12 => ?_)
            refine then_normal ?_
            refine cond_split (c := 35) st12 rfl (fun h6 => ?_) (fun h6 => ?_)
            ·
              have q5 := h6
              refine wp_seq ?_
              refine region_seg st12 (.cons rfl (by decide) (.plain rfl (op_assign rfl opd_bool))
                .nil)
                (.cons (s := 0) rfl trivial (.cons (s := 1) rfl trivial (.cons (s := 2) rfl trivial (.cons (s := 3) rfl trivial (.cons (s := 4) rfl trivial (.cons (s := 9) rfl trivial (.cons (s := 14) rfl trivial (.cons (s := 19) rfl trivial (.cons (s := 24) rfl trivial (.cons (s := 29) rfl trivial (.cons (s := 35) rfl trivial .nil))))))))))) (fun a13 w13 e13 st13 => ?_)
              refine then_normal ?_
              refine wp_ret (thn_ret ?_)
              refine ret_dtM rfl (fun _ h => h) st13 (t := 4) rfl ?_
              exact (decide_eq_false (fun e => by subst e; simp [cmpI] at q5)).symm
            ·
              have q5 := h6
              refine wp_skip ?_
              refine then_normal ?_
              refine wp_seq ?_
              refine region_seg st12 (.cons rfl (by decide) (.plain rfl (op_assign rfl opd_bool))
                .nil)
                (.cons (s := 0) rfl trivial (.cons (s := 1) rfl trivial (.cons (s := 2) rfl trivial (.cons (s := 3) rfl trivial (.cons (s := 4) rfl trivial (.cons (s := 9) rfl trivial (.cons (s := 14) rfl trivial (.cons (s := 19) rfl trivial (.cons (s := 24) rfl trivial (.cons (s := 29) rfl trivial (.cons (s := 35) rfl trivial .nil))))))))))) (fun a14 w14 e14 st14 => ?_)
              refine then_normal ?_
              refine wp_ret ?_
              refine ret_dtM rfl (fun _ h => h) st14 (t := 4) rfl ?_
              exact (decide_eq_true (eqFile_of q0 q1 q2 q3 q4 q5)).symm

theorem laws_eqFileS_ok (l m : List File) : Fn Tryz.prog 64 [dt l, dt m] (dt (decide (l = m))) := by
  refine fn_of_wp (fn := Tryz.f64) Tryz.func64 rfl (of_decide_eq_true rfl) (fun M w0 a0 hm st0 => ?_)
  have hlen := st0.lenL (s := 0) rfl
  refine wp_seq ?_
  refine region_seg st0 (.cons rfl (by decide) (.plain rfl (op_assign rfl opd_bool))
    .nil)
    (.cons (s := 0) rfl trivial (.cons (s := 1) rfl trivial (.cons (s := 4) rfl trivial .nil))) (fun a1 w1 e1 st1 => ?_)
  refine then_normal ?_
  refine wp_seq ?_
  refine wp_seq ?_
  refine region_seg st1 (.cons rfl (by decide) (.plain rfl (op_move rfl (opd_tmp rfl)))
    (.cons rfl (by decide) (.plain rfl (op_lenL rfl (by kernel_rfl) (opd_tmp rfl)))
    (.cons rfl (by decide) (.plain rfl (op_move rfl (opd_tmp rfl)))
    (.cons rfl (by decide) (.plain rfl (op_lenL rfl (by kernel_rfl) (opd_tmp rfl)))
    (.cons rfl (by decide) (.plain rfl (op_cmpI rfl (by decide) (opd_tmp rfl) (opd_tmp rfl)))
    .nil)))))
    (.cons (s := 0) rfl trivial (.cons (s := 1) rfl trivial (.cons (s := 4) rfl trivial (.cons (s := 10) rfl trivial .nil)))) (fun a2 w2 e2 st2 => ?_)
  refine then_normal ?_
  refine cond_split (c := 10) st2 rfl (fun h1 => ?_) (fun h1 => ?_)
  ·
    have hd := h1
    refine wp_seq ?_
    refine region_seg st2 (.cons rfl (by decide) (.plain rfl (op_assign rfl opd_bool))
      .nil)
      (.cons (s := 0) rfl trivial (.cons (s := 1) rfl trivial (.cons (s := 4) rfl trivial (.cons (s := 10) rfl trivial .nil)))) (fun a3 w3 e3 st3 => ?_)
    refine then_normal ?_
    refine wp_ret (thn_ret ?_)
    refine ret_dtM rfl (fun _ h => h) st3 (t := 4) rfl ?_
    exact (decide_eq_false (fun e => by subst e; simp [cmpI] at hd)).symm
  ·
    have hd : l.length = m.length := by have := h1; simp only [cmpI, bne_eq_false_iff_eq] at this; omega
    refine wp_skip ?_
    refine then_normal ?_
    refine wp_seq ?_
    refine wp_seq ?_
    refine region_seg st2 (.cons rfl (by decide) (.plain rfl (op_assign rfl opd_int))
      .nil)
      (.cons (s := 0) rfl trivial (.cons (s := 1) rfl trivial (.cons (s := 4) rfl trivial (.cons (s := 5) rfl trivial (.cons (s := 10) rfl trivial .nil))))) (fun a4 w4 e4 st4 => ?_)
    refine then_normal ?_
    refine wp_block ?_
    refine loop_st (ι := Nat) (fun k a w => St (Frm.of w0) 27 M [(0, dt l), (1, dt m), (5, dt (k : Int))] a w ∧ k ≤ l.length ∧ l.take k = m.take k) (fun k => l.length - k) 0 ?_ ?_
    ·
      exact ⟨st4.pick (.cons (s := 0) rfl trivial (.cons (s := 1) rfl trivial (.cons (s := 5) rfl trivial .nil))), Nat.zero_le _, rfl⟩
    ·
      rintro k a5 w5 ⟨st5, hk, hp⟩
      refine wp_seq ?_
      refine wp_seq ?_
      refine region_seg st5 (.cons rfl (by decide) (.plain rfl (op_move rfl (opd_tmp rfl)))
        (.cons rfl (by decide) (.plain rfl (op_move rfl (opd_tmp rfl)))
        (.cons rfl (by decide) (.plain rfl (op_lenL rfl (by kernel_rfl) (opd_tmp rfl)))
        (.cons rfl (by decide) (.plain rfl (op_cmpI rfl (by decide) (opd_tmp rfl) (opd_tmp rfl)))
        .nil))))
        (.cons (s := 0) rfl trivial (.cons (s := 1) rfl trivial (.cons (s := 5) rfl trivial (.cons (s := 14) rfl trivial .nil)))) (fun a6 w6 e6 st6 => ?_)
      refine then_normal ?_
      refine cond_split (c := 14) st6 rfl (fun h2 => ?_) (fun h2 => ?_)
      ·
        obtain ⟨x, hx⟩ := idx_of h2
        have hlt := lt_of_get hx
        obtain ⟨y, hy⟩ := same_get hd hx
        refine wp_skip ?_
        refine then_normal ?_
        refine wp_seq ?_
        refine wp_block ?_
        refine wp_seq ?_
        refine region_any Tryz_mixed [[], [], [0, 1], [0, 1, 2], [], [], [4, 5], [4, 5, 6], [0, 1, 2, 3, 4, 5, 6, 7], [0, 1, 2, 3, 4, 5, 6, 7, 8]] [[(0, none)], [(5, none)], [(17, some 0), (18, some 1)], [(19, some 2)], [(1, none)], [(5, none)], [(21, some 4), (22, some 5)], [(23, some 6)], [(20, some 3), (24, some 7)], [(25, some 8)]] (by decide +kernel) st6 (D := [_, _, _, _, _, _, _, _, _, _])
          (.cons rfl (by decide) rfl (.plain rfl (op_move rfl (opd_tmp rfl)))
          (.cons rfl (by decide) rfl (.plain rfl (op_move rfl (opd_tmp rfl)))
          (.cons rfl (by decide) rfl (.plain rfl (op_indexE rfl (by kernel_rfl) (opd_tmp rfl) (opd_tmp rfl) rfl hx))
          (.cons rfl (by decide) rfl (.plain rfl (op_load rfl (by kernel_rfl) (opd_tmp rfl)))
          (.cons rfl (by decide) rfl (.plain rfl (op_move rfl (opd_tmp rfl)))
          (.cons rfl (by decide) rfl (.plain rfl (op_move rfl (opd_tmp rfl)))
          (.cons rfl (by decide) rfl (.plain rfl (op_indexE rfl (by kernel_rfl) (opd_tmp rfl) (opd_tmp rfl) rfl hy))
          (.cons rfl (by decide) rfl (.plain rfl (op_load rfl (by kernel_rfl) (opd_tmp rfl)))
          (.cons rfl (by decide) rfl (.plain rfl (op_call (l := [.tmp 20, .tmp 24]) rfl (by kernel_rfl) (.cons (opd_tmp rfl) (.cons (opd_tmp rfl) .nil)) (laws_eqFile_ok _ _)))
          (.cons rfl (by decide) rfl (.plain rfl (op_not rfl (opd_tmp rfl)))
          .nil))))))))))
          (.cons (s := 0) rfl trivial (.cons (s := 1) rfl trivial (.cons (s := 5) rfl trivial (.cons (s := 14) rfl trivial (.cons (s := 26) rfl trivial .nil))))) (fun a7 w7 e7 st7 => ?_)
        refine then_normal ?_
        refine cond_split (c := 26) st7 rfl (fun h3 => ?_) (fun h3 => ?_)
        ·
          have ht := h3
          refine wp_seq ?_
          refine region_seg st7 (.cons rfl (by decide) (.plain rfl (op_assign rfl opd_bool))
            .nil)
            (.cons (s := 0) rfl trivial (.cons (s := 1) rfl trivial (.cons (s := 4) rfl trivial (.cons (s := 5) rfl trivial (.cons (s := 14) rfl trivial (.cons (s := 26) rfl trivial .nil)))))) (fun a8 w8 e8 st8 => ?_)
          refine then_normal ?_
          refine wp_ret (blk_ret (thn_ret (thn_ret (blk_ret (thn_ret ?_)))))
          refine ret_dtM rfl (fun _ h => h) st8 (t := 4) rfl ?_
          exact (takeE_ne hx hy (by simpa using ht)).symm
        ·
          have hf := h3
          refine wp_skip ?_
          refine blk_normal ?_
          refine then_normal ?_
          refine region_seg st7 (.cons rfl (by decide) (.plain rfl (op_move rfl (opd_tmp rfl)))
            (.cons rfl (by decide) (.plain rfl (op_arI rfl (by decide) (opd_tmp rfl) opd_int (by simp only [arI]; omega)))
            (.cons rfl (by decide) (.plain rfl (op_assign rfl (opd_tmp rfl)))
            .nil)))
            (.cons (s := 0) rfl trivial (.cons (s := 1) rfl trivial (.cons (s := 5) rfl trivial (.cons (s := 14) rfl trivial (.cons (s := 26) rfl trivial .nil))))) (fun a9 w9 e9 st9 => ?_)
          refine then_normal ⟨k+1, ⟨st9.pick (.cons (s := 0) rfl trivial (.cons (s := 1) rfl trivial (.cons (s := 5) rfl trivial .nil))), by omega, takeE_next hp hx hy (by simpa using hf)⟩, by omega⟩
      ·
        have hend := end_of h2
        refine wp_exit (thn_exit (thn_exit (exit_here ?_)))
        refine then_normal ?_
        refine wp_seq ?_
        refine region_seg st6 (.cons rfl (by decide) (.plain rfl (op_assign rfl opd_bool))
          .nil)
          (.cons (s := 0) rfl trivial (.cons (s := 1) rfl trivial (.cons (s := 4) rfl trivial (.cons (s := 5) rfl trivial (.cons (s := 14) rfl trivial .nil))))) (fun a10 w10 e10 st10 => ?_)
        refine then_normal ?_
        refine wp_ret ?_
        refine ret_dtM rfl (fun _ h => h) st10 (t := 4) rfl ?_
        exact (decide_eq_true (takeE_end hd hend hp)).symm

theorem laws_eqTree_ok (x y : Tree) : Fn Tryz.prog 13 [dt x, dt y] (dt (decide (x = y))) := by
  refine fn_of_wp (fn := Tryz.f13) Tryz.func13 rfl (of_decide_eq_true rfl) (fun M w0 a0 hm st0 => ?_)
  refine wp_seq ?_
  refine region_seg st0 (.cons rfl (by decide) (.plain rfl (op_box rfl (opd_tmp rfl)))
    (.cons rfl (by decide) (.plain rfl (op_box rfl (opd_tmp rfl)))
    (.cons rfl (by decide) (.plain rfl (op_assign rfl opd_bool))
    .nil)))
    (.cons (s := 0) rfl trivial (.cons (s := 1) rfl trivial (.cons (s := 2) rfl trivial (.cons (s := 3) rfl trivial (.cons (s := 4) rfl trivial .nil))))) (fun a1 w1 e1 st1 => ?_)
  refine then_normal ?_
  refine wp_seq ?_
  refine wp_seq ?_
  refine region_seg st1 (.cons rfl (by decide) (.plain rfl (op_field Tree.fld0 rfl (by kernel_rfl) (opd_tmp rfl)))
    (.cons rfl (by decide) (.plain rfl (op_load rfl (by kernel_rfl) (opd_tmp rfl)))
    (.cons rfl (by decide) (.plain rfl (op_field Tree.fld0 rfl (by kernel_rfl) (opd_tmp rfl)))
    (.cons rfl (by decide) (.plain rfl (op_load rfl (by kernel_rfl) (opd_tmp rfl)))
    (.cons rfl (by decide) (.plain rfl (op_call (l := [.tmp 6, .tmp 8]) rfl (by kernel_rfl) (.cons (opd_tmp rfl) (.cons (opd_tmp rfl) .nil)) (laws_eqFileS_ok _ _)))
    (.cons rfl (by decide) (.plain rfl (op_not rfl (opd_tmp rfl)))
    .nil))))))
    (.cons (s := 0) rfl trivial (.cons (s := 1) rfl trivial (.cons (s := 2) rfl trivial (.cons (s := 3) rfl trivial (.cons (s := 4) rfl trivial (.cons (s := 10) rfl trivial .nil)))))) (fun a2 w2 e2 st2 => ?_)
  refine then_normal ?_
  refine cond_split (c := 10) st2 rfl (fun h1 => ?_) (fun h1 => ?_)
  ·
    have q0 := h1
    refine wp_seq ?_
    refine region_seg st2 (.cons rfl (by decide) (.plain rfl (op_assign rfl opd_bool))
      .nil)
      (.cons (s := 0) rfl trivial (.cons (s := 1) rfl trivial (.cons (s := 2) rfl trivial (.cons (s := 3) rfl trivial (.cons (s := 4) rfl trivial (.cons (s := 10) rfl trivial .nil)))))) (fun a3 w3 e3 st3 => ?_)
    refine then_normal ?_
    refine wp_ret (thn_ret ?_)
    refine ret_dtM rfl (fun _ h => h) st3 (t := 4) rfl ?_
    exact (decide_eq_false (fun e => by subst e; simp [cmpI] at q0)).symm
  ·
    have q0 := h1
    refine wp_skip ?_
    refine then_normal ?_
    refine wp_seq ?_
    refine region_seg st2 (.cons rfl (by decide) (.plain rfl (op_assign rfl opd_bool))
      .nil)
      (.cons (s := 0) rfl trivial (.cons (s := 1) rfl trivial (.cons (s := 2) rfl trivial (.cons (s := 3) rfl trivial (.cons (s := 4) rfl trivial (.cons (s := 10) rfl trivial .nil)))))) (fun a4 w4 e4 st4 => ?_)
    refine then_normal ?_
    refine wp_ret ?_
    refine ret_dtM rfl (fun _ h => h) st4 (t := 4) rfl ?_
    exact (decide_eq_true (eqTree_of q0)).symm

theorem laws_eqIntS_ok (l m : List Int) : Fn Tryz.prog 14 [dt l, dt m] (dt (decide (l = m))) := by
  refine fn_of_wp (fn := Tryz.f14) Tryz.func14 rfl (of_decide_eq_true rfl) (fun M w0 a0 hm st0 => ?_)
  have hlen := st0.lenL (s := 0) rfl
  refine wp_seq ?_
  refine region_seg st0 (.cons rfl (by decide) (.plain rfl (op_assign rfl opd_bool))
    .nil)
    (.cons (s := 0) rfl trivial (.cons (s := 1) rfl trivial (.cons (s := 4) rfl trivial .nil))) (fun a1 w1 e1 st1 => ?_)
  refine then_normal ?_
  refine wp_seq ?_
  refine wp_seq ?_
  refine region_seg st1 (.cons rfl (by decide) (.plain rfl (op_move rfl (opd_tmp rfl)))
    (.cons rfl (by decide) (.plain rfl (op_lenL rfl (by kernel_rfl) (opd_tmp rfl)))
    (.cons rfl (by decide) (.plain rfl (op_move rfl (opd_tmp rfl)))
    (.cons rfl (by decide) (.plain rfl (op_lenL rfl (by kernel_rfl) (opd_tmp rfl)))
    (.cons rfl (by decide) (.plain rfl (op_cmpI rfl (by decide) (opd_tmp rfl) (opd_tmp rfl)))
    .nil)))))
    (.cons (s := 0) rfl trivial (.cons (s := 1) rfl trivial (.cons (s := 4) rfl trivial (.cons (s := 10) rfl trivial .nil)))) (fun a2 w2 e2 st2 => ?_)
  refine then_normal ?_
  refine cond_split (c := 10) st2 rfl (fun h1 => ?_) (fun h1 => ?_)
  ·
    have hd := h1
    refine wp_seq ?_
    refine region_seg st2 (.cons rfl (by decide) (.plain rfl (op_assign rfl opd_bool))
      .nil)
      (.cons (s := 0) rfl trivial (.cons (s := 1) rfl trivial (.cons (s := 4) rfl trivial (.cons (s := 10) rfl trivial .nil)))) (fun a3 w3 e3 st3 => ?_)
    refine then_normal ?_
    refine wp_ret (thn_ret ?_)
    refine ret_dtM rfl (fun _ h => h) st3 (t := 4) rfl ?_
    exact (decide_eq_false (fun e => by subst e; simp [cmpI] at hd)).symm
  ·
    have hd : l.length = m.length := by have := h1; simp only [cmpI, bne_eq_false_iff_eq] at this; omega
    refine wp_skip ?_
    refine then_normal ?_
    refine wp_seq ?_
    refine wp_seq ?_
    refine region_seg st2 (.cons rfl (by decide) (.plain rfl (op_assign rfl opd_int))
      .nil)
      (.cons (s := 0) rfl trivial (.cons (s := 1) rfl trivial (.cons (s := 4) rfl trivial (.cons (s := 5) rfl trivial (.cons (s := 10) rfl trivial .nil))))) (fun a4 w4 e4 st4 => ?_)
    refine then_normal ?_
    refine wp_block ?_
    refine loop_st (ι := Nat) (fun k a w => St (Frm.of w0) 26 M [(0, dt l), (1, dt m), (5, dt (k : Int))] a w ∧ k ≤ l.length ∧ l.take k = m.take k) (fun k => l.length - k) 0 ?_ ?_
    ·
      exact ⟨st4.pick (.cons (s := 0) rfl trivial (.cons (s := 1) rfl trivial (.cons (s := 5) rfl trivial .nil))), Nat.zero_le _, rfl⟩
    ·
      rintro k a5 w5 ⟨st5, hk, hp⟩
      refine wp_seq ?_
      refine wp_seq ?_
      refine region_seg st5 (.cons rfl (by decide) (.plain rfl (op_move rfl (opd_tmp rfl)))
        (.cons rfl (by decide) (.plain rfl (op_move rfl (opd_tmp rfl)))
        (.cons rfl (by decide) (.plain rfl (op_lenL rfl (by kernel_rfl) (opd_tmp rfl)))
        (.cons rfl (by decide) (.plain rfl (op_cmpI rfl (by decide) (opd_tmp rfl) (opd_tmp rfl)))
        .nil))))
        (.cons (s := 0) rfl trivial (.cons (s := 1) rfl trivial (.cons (s := 5) rfl trivial (.cons (s := 14) rfl trivial .nil)))) (fun a6 w6 e6 st6 => ?_)
      refine then_normal ?_
      refine cond_split (c := 14) st6 rfl (fun h2 => ?_) (fun h2 => ?_)
      ·
        obtain ⟨x, hx⟩ := idx_of h2
        have hlt := lt_of_get hx
        obtain ⟨y, hy⟩ := same_get hd hx
        refine wp_skip ?_
        refine then_normal ?_
        refine wp_seq ?_
        refine wp_block ?_
        refine wp_seq ?_
        refine region_any Tryz_mixed [[], [], [0, 1], [0, 1, 2], [], [], [4, 5], [4, 5, 6], [0, 1, 2, 3, 4, 5, 6, 7]] [[(0, none)], [(5, none)], [(17, some 0), (18, some 1)], [(19, some 2)], [(1, none)], [(5, none)], [(21, some 4), (22, some 5)], [(23, some 6)], [(20, some 3), (24, some 7)]] (by decide +kernel) st6 (D := [_, _, _, _, _, _, _, _, _])
          (.cons rfl (by decide) rfl (.plain rfl (op_move rfl (opd_tmp rfl)))
          (.cons rfl (by decide) rfl (.plain rfl (op_move rfl (opd_tmp rfl)))
          (.cons rfl (by decide) rfl (.plain rfl (op_indexE rfl (by kernel_rfl) (opd_tmp rfl) (opd_tmp rfl) rfl hx))
          (.cons rfl (by decide) rfl (.plain rfl (op_load rfl (by kernel_rfl) (opd_tmp rfl)))
          (.cons rfl (by decide) rfl (.plain rfl (op_move rfl (opd_tmp rfl)))
          (.cons rfl (by decide) rfl (.plain rfl (op_move rfl (opd_tmp rfl)))
          (.cons rfl (by decide) rfl (.plain rfl (op_indexE rfl (by kernel_rfl) (opd_tmp rfl) (opd_tmp rfl) rfl hy))
          (.cons rfl (by decide) rfl (.plain rfl (op_load rfl (by kernel_rfl) (opd_tmp rfl)))
          (.cons rfl (by decide) rfl (.plain rfl (op_cmpI rfl (by decide) (opd_tmp rfl) (opd_tmp rfl)))
          .nil)))))))))
          (.cons (s := 0) rfl trivial (.cons (s := 1) rfl trivial (.cons (s := 5) rfl trivial (.cons (s := 14) rfl trivial (.cons (s := 25) rfl trivial .nil))))) (fun a7 w7 e7 st7 => ?_)
        refine then_normal ?_
        refine cond_split (c := 25) st7 rfl (fun h3 => ?_) (fun h3 => ?_)
        ·
          have ht := h3
          refine wp_seq ?_
          refine region_seg st7 (.cons rfl (by decide) (.plain rfl (op_assign rfl opd_bool))
            .nil)
            (.cons (s := 0) rfl trivial (.cons (s := 1) rfl trivial (.cons (s := 4) rfl trivial (.cons (s := 5) rfl trivial (.cons (s := 14) rfl trivial (.cons (s := 25) rfl trivial .nil)))))) (fun a8 w8 e8 st8 => ?_)
          refine then_normal ?_
          refine wp_ret (blk_ret (thn_ret (thn_ret (blk_ret (thn_ret ?_)))))
          refine ret_dtM rfl (fun _ h => h) st8 (t := 4) rfl ?_
          exact (takeE_ne hx hy (by simpa [cmpI] using ht)).symm
        ·
          have hf := h3
          refine wp_skip ?_
          refine blk_normal ?_
          refine then_normal ?_
          refine region_seg st7 (.cons rfl (by decide) (.plain rfl (op_move rfl (opd_tmp rfl)))
            (.cons rfl (by decide) (.plain rfl (op_arI rfl (by decide) (opd_tmp rfl) opd_int (by simp only [arI]; omega)))
            (.cons rfl (by decide) (.plain rfl (op_assign rfl (opd_tmp rfl)))
            .nil)))
            (.cons (s := 0) rfl trivial (.cons (s := 1) rfl trivial (.cons (s := 5) rfl trivial (.cons (s := 14) rfl trivial (.cons (s := 25) rfl trivial .nil))))) (fun a9 w9 e9 st9 => ?_)
          refine then_normal ⟨k+1, ⟨st9.pick (.cons (s := 0) rfl trivial (.cons (s := 1) rfl trivial (.cons (s := 5) rfl trivial .nil))), by omega, takeE_next hp hx hy (by simpa [cmpI] using hf)⟩, by omega⟩
      ·
        have hend := end_of h2
        refine wp_exit (thn_exit (thn_exit (exit_here ?_)))
        refine then_normal ?_
        refine wp_seq ?_
        refine region_seg st6 (.cons rfl (by decide) (.plain rfl (op_assign rfl opd_bool))
          .nil)
          (.cons (s := 0) rfl trivial (.cons (s := 1) rfl trivial (.cons (s := 4) rfl trivial (.cons (s := 5) rfl trivial (.cons (s := 14) rfl trivial .nil))))) (fun a10 w10 e10 st10 => ?_)
        refine then_normal ?_
        refine wp_ret ?_
        refine ret_dtM rfl (fun _ h => h) st10 (t := 4) rfl ?_
        exact (decide_eq_true (takeE_end hd hend hp)).symm

end Go.Proofs.YtionokffhhiicaaGreatDoor

namespace Go.Proofs.YtionokffhhiicaaGreatDoor
open Go.RowKit
set_option maxRecDepth 10000

theorem laws_toStmt_ok (s : Stmt) : Fn Tryz.prog 176 [dt s] (dt s) := by
  refine fn_of_wp (fn := Tryz.f176) Tryz.func176 rfl (of_decide_eq_true rfl) (fun M w0 a0 hm st0 => ?_)
  refine wp_seq ?_
  refine wp_region_list ?_
  refine seg_n 1 st0 (.cons rfl (by decide) (.plain rfl (op_box rfl (opd_tmp rfl)))
    .nil)
    (.cons (s := 0) rfl trivial (.cons (s := 1) rfl trivial .nil)) (fun a1 w1 e1 st1 => ?_)
  refine wpl_alloc (n := 5) st1 rfl rfl rfl (by decide) (by kernel_rfl) (.cons (s := 0) rfl trivial (.cons (s := 1) rfl trivial .nil)) (fun b2 a2 w2 hb2 hn2 e2 st2 => ?_)
  refine wpList_nil ?_
  refine then_normal ?_
  refine wp_seq ?_
  refine wp_region_list ?_
  refine wpl_allocZ (zs := [[.int .i64 0], [.string ⟨⟨[]⟩⟩], [.int .i64 0], [.string ⟨⟨[]⟩⟩], [.int .i64 0]].flatten) (d0 := (⟨0, ⟨[]⟩, 0, ⟨[]⟩, 0⟩ : Stmt)) st2 rfl rfl rfl (by decide) (by kernel_rfl) (fun _ _ => Stmt.parts ⟨rfl, trivial⟩ zero_str ⟨rfl, trivial⟩ zero_str ⟨rfl, trivial⟩) (.cons (s := 0) rfl trivial (.cons (s := 1) rfl trivial (.cons (s := 2) rfl trivial .nil))) (fun b3 a3 w3 hb3 hn3 e3 st3 => ?_)
  refine wpList_nil ?_
  refine then_normal ?_
  refine wp_seq ?_
  refine wp_region_list ?_
  refine seg_n 3 st3 (.cons rfl (by decide) (.plain rfl (op_field Stmt.fld0 rfl (by kernel_rfl) (opd_tmp rfl)))
    (.cons rfl (by decide) (.plain rfl (op_load rfl (by kernel_rfl) (opd_tmp rfl)))
    (.cons rfl (by decide) (.plain rfl (op_fieldBox Stmt.fld0 rfl (by kernel_rfl) (opd_tmp rfl)))
    .nil)))
    (.cons (s := 0) rfl trivial (.cons (s := 1) rfl trivial (.cons (s := 2) rfl trivial (.cons (s := 3) rfl trivial (.cons (s := 5) rfl trivial (.cons (s := 6) rfl trivial .nil)))))) (fun a4 w4 e4 st4 => ?_)
  refine wpl_storeAt (sb := 3) st4 Stmt.set0 rfl rfl rfl (by kernel_rfl) hb3 (.inr rfl) rfl (opd_tmp rfl) rfl (.cons (s := 0) rfl (fun _ _ h => h) (.cons (s := 1) rfl (fun _ _ h => h) (.cons (s := 2) rfl (draw_ne' hn3 (.inr rfl)) .nil))) (fun w5 st5 => ?_)
  refine wpList_nil ?_
  refine then_normal ?_
  refine wp_seq ?_
  refine wp_region_list ?_
  refine seg_n 3 st5 (.cons rfl (by decide) (.plain rfl (op_field Stmt.fld1 rfl (by kernel_rfl) (opd_tmp rfl)))
    (.cons rfl (by decide) (.plain rfl (op_load rfl (by kernel_rfl) (opd_tmp rfl)))
    (.cons rfl (by decide) (.plain rfl (op_fieldBox Stmt.fld1 rfl (by kernel_rfl) (opd_tmp rfl)))
    .nil)))
    (.cons (s := 0) rfl trivial (.cons (s := 1) rfl trivial (.cons (s := 2) rfl trivial (.cons (s := 3) rfl trivial (.cons (s := 8) rfl trivial (.cons (s := 9) rfl trivial .nil)))))) (fun a6 w6 e6 st6 => ?_)
  refine wpl_storeAt (sb := 3) st6 Stmt.set1 rfl rfl rfl (by kernel_rfl) hb3 (.inr rfl) rfl (opd_tmp rfl) rfl (.cons (s := 0) rfl (fun _ _ h => h) (.cons (s := 1) rfl (fun _ _ h => h) (.cons (s := 2) rfl (draw_ne' hn3 (.inr rfl)) .nil))) (fun w7 st7 => ?_)
  refine wpList_nil ?_
  refine then_normal ?_
  refine wp_seq ?_
  refine wp_region_list ?_
  refine seg_n 3 st7 (.cons rfl (by decide) (.plain rfl (op_field Stmt.fld2 rfl (by kernel_rfl) (opd_tmp rfl)))
    (.cons rfl (by decide) (.plain rfl (op_load rfl (by kernel_rfl) (opd_tmp rfl)))
    (.cons rfl (by decide) (.plain rfl (op_fieldBox Stmt.fld2 rfl (by kernel_rfl) (opd_tmp rfl)))
    .nil)))
    (.cons (s := 0) rfl trivial (.cons (s := 1) rfl trivial (.cons (s := 2) rfl trivial (.cons (s := 3) rfl trivial (.cons (s := 11) rfl trivial (.cons (s := 12) rfl trivial .nil)))))) (fun a8 w8 e8 st8 => ?_)
  refine wpl_storeAt (sb := 3) st8 Stmt.set2 rfl rfl rfl (by kernel_rfl) hb3 (.inr rfl) rfl (opd_tmp rfl) rfl (.cons (s := 0) rfl (fun _ _ h => h) (.cons (s := 1) rfl (fun _ _ h => h) (.cons (s := 2) rfl (draw_ne' hn3 (.inr rfl)) .nil))) (fun w9 st9 => ?_)
  refine wpList_nil ?_
  refine then_normal ?_
  refine wp_seq ?_
  refine wp_region_list ?_
  refine seg_n 3 st9 (.cons rfl (by decide) (.plain rfl (op_field Stmt.fld3 rfl (by kernel_rfl) (opd_tmp rfl)))
    (.cons rfl (by decide) (.plain rfl (op_load rfl (by kernel_rfl) (opd_tmp rfl)))
    (.cons rfl (by decide) (.plain rfl (op_fieldBox Stmt.fld3 rfl (by kernel_rfl) (opd_tmp rfl)))
    .nil)))
    (.cons (s := 0) rfl trivial (.cons (s := 1) rfl trivial (.cons (s := 2) rfl trivial (.cons (s := 3) rfl trivial (.cons (s := 14) rfl trivial (.cons (s := 15) rfl trivial .nil)))))) (fun a10 w10 e10 st10 => ?_)
  refine wpl_storeAt (sb := 3) st10 Stmt.set3 rfl rfl rfl (by kernel_rfl) hb3 (.inr rfl) rfl (opd_tmp rfl) rfl (.cons (s := 0) rfl (fun _ _ h => h) (.cons (s := 1) rfl (fun _ _ h => h) (.cons (s := 2) rfl (draw_ne' hn3 (.inr rfl)) .nil))) (fun w11 st11 => ?_)
  refine wpList_nil ?_
  refine then_normal ?_
  refine wp_seq ?_
  refine wp_region_list ?_
  refine seg_n 3 st11 (.cons rfl (by decide) (.plain rfl (op_field Stmt.fld4 rfl (by kernel_rfl) (opd_tmp rfl)))
    (.cons rfl (by decide) (.plain rfl (op_load rfl (by kernel_rfl) (opd_tmp rfl)))
    (.cons rfl (by decide) (.plain rfl (op_fieldBox Stmt.fld4 rfl (by kernel_rfl) (opd_tmp rfl)))
    .nil)))
    (.cons (s := 0) rfl trivial (.cons (s := 1) rfl trivial (.cons (s := 2) rfl trivial (.cons (s := 3) rfl trivial (.cons (s := 17) rfl trivial (.cons (s := 18) rfl trivial .nil)))))) (fun a12 w12 e12 st12 => ?_)
  refine wpl_storeAt (sb := 3) st12 Stmt.set4 rfl rfl rfl (by kernel_rfl) hb3 (.inr rfl) rfl (opd_tmp rfl) rfl (.cons (s := 0) rfl (fun _ _ h => h) (.cons (s := 1) rfl (fun _ _ h => h) (.cons (s := 2) rfl (draw_ne' hn3 (.inr rfl)) .nil))) (fun w13 st13 => ?_)
  refine wpList_nil ?_
  refine then_normal ?_
  refine wp_seq ?_
  refine wp_region_list ?_
  refine seg_n 1 st13 (.cons rfl (by decide) (.plain rfl (op_loadBox rfl (by kernel_rfl) (opd_tmp rfl)))
    .nil)
    (.cons (s := 0) rfl trivial (.cons (s := 1) rfl trivial (.cons (s := 2) rfl trivial (.cons (s := 3) rfl trivial (.cons (s := 19) rfl trivial .nil))))) (fun a14 w14 e14 st14 => ?_)
  refine wpl_storeNew st14 rfl rfl rfl (by kernel_rfl) rfl hb2 (.inl (.inr rfl)) rfl (opd_tmp rfl) (.cons (s := 0) rfl (fun _ _ h => h) (.cons (s := 1) rfl (fun _ _ h => h) (.cons (s := 3) rfl (box_ne hn3 (.inr rfl)) .nil))) (fun w15 st15 => ?_)
  refine wpList_nil ?_
  refine then_normal ?_
  refine wp_ret ?_
  refine ret_box rfl (by kernel_rfl) st15 (t := 2) rfl (fun _ h => (.inl (.inl h))) ?_
  rfl

theorem laws_toStmtS_ok (b : List Stmt) (hb : b.length ≤ 1048576) : Fn Tryz.prog 150 [dt b] (dt b) := by
  refine fn_of_wp (fn := Tryz.f150) Tryz.func150 rfl (of_decide_eq_true rfl) (fun M w0 a0 hm st0 => ?_)
  have hbl := hb
  refine wp_seq ?_
  refine region_seg st0 (.cons rfl (by decide) (.plain rfl (op_assign rfl (opd_nil (α := Stmt))))
    .nil)
    (.cons (s := 0) rfl trivial (.cons (s := 2) rfl trivial .nil)) (fun a1 w1 e1 st1 => ?_)
  refine then_normal ?_
  refine wp_seq ?_
  refine wp_region_list ?_
  refine seg_n 2 st1 (.cons rfl (by decide) (.plain rfl (op_move rfl (opd_tmp rfl)))
    (.cons rfl (by decide) (.plain rfl (op_lenL rfl (by kernel_rfl) (opd_tmp rfl)))
    .nil))
    (.cons (s := 0) rfl trivial (.cons (s := 2) rfl trivial (.cons (s := 6) rfl trivial .nil))) (fun a2 w2 e2 st2 => ?_)
  refine wpl_make (α := Stmt) (e := 140) (bytes := 56) (zs := [[.int .i64 0], [.string ⟨⟨[]⟩⟩], [.int .i64 0], [.string ⟨⟨[]⟩⟩], [.int .i64 0]].flatten) (d0 := (⟨0, ⟨[]⟩, 0, ⟨[]⟩, 0⟩ : Stmt)) st2 rfl rfl rfl (by decide) (by kernel_rfl) (by kernel_rfl) (fun _ _ => Stmt.parts ⟨rfl, trivial⟩ zero_str ⟨rfl, trivial⟩ zero_str ⟨rfl, trivial⟩) rfl (by show _ * 5 ≤ _; omega) (by omega) (by omega) (.cons (s := 0) rfl trivial (.cons (s := 2) rfl trivial .nil)) (fun g3 a3 w3 hg3 st3 => ?_)
  refine seg_n 1 st3 (.cons rfl (by decide) (.plain rfl (op_assign rfl (opd_tmp rfl)))
    .nil)
    (.cons (s := 0) rfl trivial (.cons (s := 2) rfl trivial (.cons (s := 3) rfl trivial .nil))) (fun a4 w4 e4 st4 => ?_)
  refine wpList_nil ?_
  refine then_normal ?_
  refine wp_seq ?_
  refine wp_seq ?_
  refine region_seg st4 (.cons rfl (by decide) (.plain rfl (op_assign rfl opd_int))
    .nil)
    (.cons (s := 0) rfl trivial (.cons (s := 2) rfl trivial (.cons (s := 3) rfl trivial (.cons (s := 4) rfl trivial .nil)))) (fun a5 w5 e5 st5 => ?_)
  refine then_normal ?_
  refine wp_block ?_
  refine loop_st (ι := Nat) (fun k a w => ∃ g, TipOK (Frm.of w0) M g ∧ St (Frm.of w0) 23 (insO g M) [(0, dt b), (3, dtip g 140 (copyTo (⟨0, ⟨[]⟩, 0, ⟨[]⟩, 0⟩ : Stmt) b k)), (4, dt (k : Int))] a w ∧ k ≤ b.length) (fun k => b.length - k) 0 ?_ ?_
  ·
    exact ⟨g3, hg3, st5.pick (.cons (s := 0) rfl trivial (.cons (s := 3) rfl trivial (.cons (s := 4) rfl trivial .nil))), Nat.zero_le _⟩
  ·
    rintro k a6 w6 ⟨g6, hg6, st6, hk⟩
    refine wp_seq ?_
    refine wp_seq ?_
    refine region_seg st6 (.cons rfl (by decide) (.plain rfl (op_move rfl (opd_tmp rfl)))
      (.cons rfl (by decide) (.plain rfl (op_move rfl (opd_tmp rfl)))
      (.cons rfl (by decide) (.plain rfl (op_lenL rfl (by kernel_rfl) (opd_tmp rfl)))
      (.cons rfl (by decide) (.plain rfl (op_cmpI rfl (by decide) (opd_tmp rfl) (opd_tmp rfl)))
      .nil))))
      (.cons (s := 0) rfl trivial (.cons (s := 3) rfl trivial (.cons (s := 4) rfl trivial (.cons (s := 11) rfl trivial .nil)))) (fun a7 w7 e7 st7 => ?_)
    refine then_normal ?_
    refine cond_split (c := 11) st7 rfl (fun h1 => ?_) (fun h1 => ?_)
    ·
      obtain ⟨x, hx⟩ := idx_of h1
      have hlt := lt_of_get hx
      refine wp_skip ?_
      refine then_normal ?_
      refine wp_seq ?_
      refine wp_block ?_
      refine wp_region_list ?_
      refine seg_n 8 st7 (.cons rfl (by decide) (.plain rfl (op_move rfl (opd_tmp rfl)))
        (.cons rfl (by decide) (.plain rfl (op_move rfl (opd_tmp rfl)))
        (.cons rfl (by decide) (.plain rfl (op_move rfl (opd_tmp rfl)))
        (.cons rfl (by decide) (.plain rfl (op_move rfl (opd_tmp rfl)))
        (.cons rfl (by decide) (.plain rfl (op_indexE rfl (by kernel_rfl) (opd_tmp rfl) (opd_tmp rfl) rfl hx))
        (.cons rfl (by decide) (.plain rfl (op_load rfl (by kernel_rfl) (opd_tmp rfl)))
        (.cons rfl (by decide) (.plain rfl (op_call (l := [.tmp 19]) rfl (by kernel_rfl) (.cons (opd_tmp rfl) .nil) (laws_toStmt_ok _)))
        (.cons rfl (by decide) (.plain rfl (op_indexTipE rfl (by kernel_rfl) (opd_tmp rfl) (opd_tmp rfl) rfl (copyTo_at hx)))
        .nil))))))))
        (.cons (s := 0) rfl trivial (.cons (s := 3) rfl trivial (.cons (s := 4) rfl trivial (.cons (s := 11) rfl trivial (.cons (s := 20) rfl trivial (.cons (s := 21) rfl trivial .nil)))))) (fun a8 w8 e8 st8 => ?_)
      refine wpl_storeTip (sb := 3) (e := 140) st8 rfl rfl rfl (by kernel_rfl) rfl (opd_tmp rfl) rfl (copyTo_lt hx) hg6 (.cons (s := 0) rfl (fun _ _ h => h) (.cons (s := 4) rfl (fun _ _ h => h) (.cons (s := 11) rfl (fun _ _ h => h) .nil))) (fun w9 st9 => ?_)
      refine wpList_nil ?_
      refine blk_normal ?_
      refine then_normal ?_
      refine region_seg st9 (.cons rfl (by decide) (.plain rfl (op_move rfl (opd_tmp rfl)))
        (.cons rfl (by decide) (.plain rfl (op_arI rfl (by decide) (opd_tmp rfl) opd_int (by simp only [arI]; omega)))
        (.cons rfl (by decide) (.plain rfl (op_assign rfl (opd_tmp rfl)))
        .nil)))
        (.cons (s := 0) rfl trivial (.cons (s := 3) rfl trivial (.cons (s := 4) rfl trivial (.cons (s := 11) rfl trivial .nil)))) (fun a10 w10 e10 st10 => ?_)
      refine then_normal ⟨k+1, ⟨g6, hg6, ?_, by omega⟩, by omega⟩
      rw [copyTo_next hx]
      exact st10.pick (.cons (s := 0) rfl trivial (.cons (s := 3) rfl trivial (.cons (s := 4) rfl trivial .nil)))
    ·
      have hend := end_of h1
      refine wp_exit (thn_exit (thn_exit (exit_here ?_)))
      refine then_normal ?_
      refine wp_seq ?_
      refine region_seg st7 (.cons rfl (by decide) (.plain rfl (op_move rfl (opd_tmp rfl)))
        (.cons rfl (by decide) (.plain rfl (op_assign rfl (opd_tmp rfl)))
        .nil))
        (.cons (s := 0) rfl trivial (.cons (s := 2) rfl trivial (.cons (s := 3) rfl trivial (.cons (s := 4) rfl trivial (.cons (s := 11) rfl trivial .nil))))) (fun a11 w11 e11 st11 => ?_)
      refine then_normal ?_
      refine wp_ret ?_
      refine ret_tip rfl (hg6) (fun _ h => h) st11 (t := 2) rfl ?_
      exact copyTo_end hk hend

theorem laws_toIntS_ok (b : List Int) (hb : b.length ≤ 1048576) : Fn Tryz.prog 11 [dt b] (dt b) := by
  refine fn_of_wp (fn := Tryz.f11) Tryz.func11 rfl (of_decide_eq_true rfl) (fun M w0 a0 hm st0 => ?_)
  have hbl := hb
  refine wp_seq ?_
  refine region_seg st0 (.cons rfl (by decide) (.plain rfl (op_assign rfl (opd_nil (α := Int))))
    .nil)
    (.cons (s := 0) rfl trivial (.cons (s := 2) rfl trivial .nil)) (fun a1 w1 e1 st1 => ?_)
  refine then_normal ?_
  refine wp_seq ?_
  refine wp_region_list ?_
  refine seg_n 2 st1 (.cons rfl (by decide) (.plain rfl (op_move rfl (opd_tmp rfl)))
    (.cons rfl (by decide) (.plain rfl (op_lenL rfl (by kernel_rfl) (opd_tmp rfl)))
    .nil))
    (.cons (s := 0) rfl trivial (.cons (s := 2) rfl trivial (.cons (s := 6) rfl trivial .nil))) (fun a2 w2 e2 st2 => ?_)
  refine wpl_make (α := Int) (e := 3) (bytes := 8) (zs := [.int .i64 0]) (d0 := (0 : Int)) st2 rfl rfl rfl (by decide) (by kernel_rfl) (by kernel_rfl) (fun _ _ => ⟨rfl, trivial⟩) rfl (by show _ * 1 ≤ _; omega) (by omega) (by omega) (.cons (s := 0) rfl trivial (.cons (s := 2) rfl trivial .nil)) (fun g3 a3 w3 hg3 st3 => ?_)
  refine seg_n 1 st3 (.cons rfl (by decide) (.plain rfl (op_assign rfl (opd_tmp rfl)))
    .nil)
    (.cons (s := 0) rfl trivial (.cons (s := 2) rfl trivial (.cons (s := 3) rfl trivial .nil))) (fun a4 w4 e4 st4 => ?_)
  refine wpList_nil ?_
  refine then_normal ?_
  refine wp_seq ?_
  refine wp_seq ?_
  refine region_seg st4 (.cons rfl (by decide) (.plain rfl (op_assign rfl opd_int))
    .nil)
    (.cons (s := 0) rfl trivial (.cons (s := 2) rfl trivial (.cons (s := 3) rfl trivial (.cons (s := 4) rfl trivial .nil)))) (fun a5 w5 e5 st5 => ?_)
  refine then_normal ?_
  refine wp_block ?_
  refine loop_st (ι := Nat) (fun k a w => ∃ g, TipOK (Frm.of w0) M g ∧ St (Frm.of w0) 22 (insO g M) [(0, dt b), (3, dtip g 3 (copyTo (0 : Int) b k)), (4, dt (k : Int))] a w ∧ k ≤ b.length) (fun k => b.length - k) 0 ?_ ?_
  ·
    exact ⟨g3, hg3, st5.pick (.cons (s := 0) rfl trivial (.cons (s := 3) rfl trivial (.cons (s := 4) rfl trivial .nil))), Nat.zero_le _⟩
  ·
    rintro k a6 w6 ⟨g6, hg6, st6, hk⟩
    refine wp_seq ?_
    refine wp_seq ?_
    refine region_seg st6 (.cons rfl (by decide) (.plain rfl (op_move rfl (opd_tmp rfl)))
      (.cons rfl (by decide) (.plain rfl (op_move rfl (opd_tmp rfl)))
      (.cons rfl (by decide) (.plain rfl (op_lenL rfl (by kernel_rfl) (opd_tmp rfl)))
      (.cons rfl (by decide) (.plain rfl (op_cmpI rfl (by decide) (opd_tmp rfl) (opd_tmp rfl)))
      .nil))))
      (.cons (s := 0) rfl trivial (.cons (s := 3) rfl trivial (.cons (s := 4) rfl trivial (.cons (s := 11) rfl trivial .nil)))) (fun a7 w7 e7 st7 => ?_)
    refine then_normal ?_
    refine cond_split (c := 11) st7 rfl (fun h1 => ?_) (fun h1 => ?_)
    ·
      obtain ⟨x, hx⟩ := idx_of h1
      have hlt := lt_of_get hx
      refine wp_skip ?_
      refine then_normal ?_
      refine wp_seq ?_
      refine wp_block ?_
      refine wp_region_list ?_
      refine seg_n 7 st7 (.cons rfl (by decide) (.plain rfl (op_move rfl (opd_tmp rfl)))
        (.cons rfl (by decide) (.plain rfl (op_move rfl (opd_tmp rfl)))
        (.cons rfl (by decide) (.plain rfl (op_move rfl (opd_tmp rfl)))
        (.cons rfl (by decide) (.plain rfl (op_move rfl (opd_tmp rfl)))
        (.cons rfl (by decide) (.plain rfl (op_indexE rfl (by kernel_rfl) (opd_tmp rfl) (opd_tmp rfl) rfl hx))
        (.cons rfl (by decide) (.plain rfl (op_load rfl (by kernel_rfl) (opd_tmp rfl)))
        (.cons rfl (by decide) (.plain rfl (op_indexTipE rfl (by kernel_rfl) (opd_tmp rfl) (opd_tmp rfl) rfl (copyTo_at hx)))
        .nil)))))))
        (.cons (s := 0) rfl trivial (.cons (s := 3) rfl trivial (.cons (s := 4) rfl trivial (.cons (s := 11) rfl trivial (.cons (s := 19) rfl trivial (.cons (s := 20) rfl trivial .nil)))))) (fun a8 w8 e8 st8 => ?_)
      refine wpl_storeTip (sb := 3) (e := 3) st8 rfl rfl rfl (by kernel_rfl) rfl (opd_tmp rfl) rfl (copyTo_lt hx) hg6 (.cons (s := 0) rfl (fun _ _ h => h) (.cons (s := 4) rfl (fun _ _ h => h) (.cons (s := 11) rfl (fun _ _ h => h) .nil))) (fun w9 st9 => ?_)
      refine wpList_nil ?_
      refine blk_normal ?_
      refine then_normal ?_
      refine region_seg st9 (.cons rfl (by decide) (.plain rfl (op_move rfl (opd_tmp rfl)))
        (.cons rfl (by decide) (.plain rfl (op_arI rfl (by decide) (opd_tmp rfl) opd_int (by simp only [arI]; omega)))
        (.cons rfl (by decide) (.plain rfl (op_assign rfl (opd_tmp rfl)))
        .nil)))
        (.cons (s := 0) rfl trivial (.cons (s := 3) rfl trivial (.cons (s := 4) rfl trivial (.cons (s := 11) rfl trivial .nil)))) (fun a10 w10 e10 st10 => ?_)
      refine then_normal ⟨k+1, ⟨g6, hg6, ?_, by omega⟩, by omega⟩
      rw [copyTo_next hx]
      exact st10.pick (.cons (s := 0) rfl trivial (.cons (s := 3) rfl trivial (.cons (s := 4) rfl trivial .nil)))
    ·
      have hend := end_of h1
      refine wp_exit (thn_exit (thn_exit (exit_here ?_)))
      refine then_normal ?_
      refine wp_seq ?_
      refine region_seg st7 (.cons rfl (by decide) (.plain rfl (op_move rfl (opd_tmp rfl)))
        (.cons rfl (by decide) (.plain rfl (op_assign rfl (opd_tmp rfl)))
        .nil))
        (.cons (s := 0) rfl trivial (.cons (s := 2) rfl trivial (.cons (s := 3) rfl trivial (.cons (s := 4) rfl trivial (.cons (s := 11) rfl trivial .nil))))) (fun a11 w11 e11 st11 => ?_)
      refine then_normal ?_
      refine wp_ret ?_
      refine ret_tip rfl (hg6) (fun _ h => h) st11 (t := 2) rfl ?_
      exact copyTo_end hk hend

theorem laws_toFile_ok (f : File) (hf : smFile f) : Fn Tryz.prog 111 [dt f] (dt f) := by
  refine fn_of_wp (fn := Tryz.f111) Tryz.func111 rfl (of_decide_eq_true rfl) (fun M w0 a0 hm st0 => ?_)
  refine wp_seq ?_
  refine wp_region_list ?_
  refine seg_n 1 st0 (.cons rfl (by decide) (.plain rfl (op_box rfl (opd_tmp rfl)))
    .nil)
    (.cons (s := 0) rfl trivial (.cons (s := 1) rfl trivial .nil)) (fun a1 w1 e1 st1 => ?_)
  refine wpl_alloc (n := 6) st1 rfl rfl rfl (by decide) (by kernel_rfl) (.cons (s := 0) rfl trivial (.cons (s := 1) rfl trivial .nil)) (fun b2 a2 w2 hb2 hn2 e2 st2 => ?_)
  refine wpList_nil ?_
  refine then_normal ?_
  refine wp_seq ?_
  refine wp_region_list ?_
  refine wpl_allocZ (zs := [[.int .i64 0], [.string ⟨⟨[]⟩⟩], [.string ⟨⟨[]⟩⟩], [.bool false], [.int .i64 0], [.slice none 0 0]].flatten) (d0 := (⟨0, ⟨[]⟩, ⟨[]⟩, false, 0, []⟩ : File)) st2 rfl rfl rfl (by decide) (by kernel_rfl) (fun _ _ => File.parts ⟨rfl, trivial⟩ zero_str zero_str ⟨rfl, trivial⟩ ⟨rfl, trivial⟩ zero_list) (.cons (s := 0) rfl trivial (.cons (s := 1) rfl trivial (.cons (s := 2) rfl trivial .nil))) (fun b3 a3 w3 hb3 hn3 e3 st3 => ?_)
  refine wpList_nil ?_
  refine then_normal ?_
  refine wp_seq ?_
  refine wp_region_list ?_
  refine seg_n 3 st3 (.cons rfl (by decide) (.plain rfl (op_field File.fld0 rfl (by kernel_rfl) (opd_tmp rfl)))
    (.cons rfl (by decide) (.plain rfl (op_load rfl (by kernel_rfl) (opd_tmp rfl)))
    (.cons rfl (by decide) (.plain rfl (op_fieldBox File.fld0 rfl (by kernel_rfl) (opd_tmp rfl)))
    .nil)))
    (.cons (s := 0) rfl trivial (.cons (s := 1) rfl trivial (.cons (s := 2) rfl trivial (.cons (s := 3) rfl trivial (.cons (s := 5) rfl trivial (.cons (s := 6) rfl trivial .nil)))))) (fun a4 w4 e4 st4 => ?_)
  refine wpl_storeAt (sb := 3) st4 File.set0 rfl rfl rfl (by kernel_rfl) hb3 (.inr rfl) rfl (opd_tmp rfl) rfl (.cons (s := 0) rfl (fun _ _ h => h) (.cons (s := 1) rfl (fun _ _ h => h) (.cons (s := 2) rfl (draw_ne' hn3 (.inr rfl)) .nil))) (fun w5 st5 => ?_)
  refine wpList_nil ?_
  refine then_normal ?_
  refine wp_seq ?_
  refine wp_region_list ?_
  refine seg_n 3 st5 (.cons rfl (by decide) (.plain rfl (op_field File.fld1 rfl (by kernel_rfl) (opd_tmp rfl)))
    (.cons rfl (by decide) (.plain rfl (op_load rfl (by kernel_rfl) (opd_tmp rfl)))
    (.cons rfl (by decide) (.plain rfl (op_fieldBox File.fld1 rfl (by kernel_rfl) (opd_tmp rfl)))
    .nil)))
    (.cons (s := 0) rfl trivial (.cons (s := 1) rfl trivial (.cons (s := 2) rfl trivial (.cons (s := 3) rfl trivial (.cons (s := 8) rfl trivial (.cons (s := 9) rfl trivial .nil)))))) (fun a6 w6 e6 st6 => ?_)
  refine wpl_storeAt (sb := 3) st6 File.set1 rfl rfl rfl (by kernel_rfl) hb3 (.inr rfl) rfl (opd_tmp rfl) rfl (.cons (s := 0) rfl (fun _ _ h => h) (.cons (s := 1) rfl (fun _ _ h => h) (.cons (s := 2) rfl (draw_ne' hn3 (.inr rfl)) .nil))) (fun w7 st7 => ?_)
  refine wpList_nil ?_
  refine then_normal ?_
  refine wp_seq ?_
  refine wp_region_list ?_
  refine seg_n 3 st7 (.cons rfl (by decide) (.plain rfl (op_field File.fld2 rfl (by kernel_rfl) (opd_tmp rfl)))
    (.cons rfl (by decide) (.plain rfl (op_load rfl (by kernel_rfl) (opd_tmp rfl)))
    (.cons rfl (by decide) (.plain rfl (op_fieldBox File.fld2 rfl (by kernel_rfl) (opd_tmp rfl)))
    .nil)))
    (.cons (s := 0) rfl trivial (.cons (s := 1) rfl trivial (.cons (s := 2) rfl trivial (.cons (s := 3) rfl trivial (.cons (s := 11) rfl trivial (.cons (s := 12) rfl trivial .nil)))))) (fun a8 w8 e8 st8 => ?_)
  refine wpl_storeAt (sb := 3) st8 File.set2 rfl rfl rfl (by kernel_rfl) hb3 (.inr rfl) rfl (opd_tmp rfl) rfl (.cons (s := 0) rfl (fun _ _ h => h) (.cons (s := 1) rfl (fun _ _ h => h) (.cons (s := 2) rfl (draw_ne' hn3 (.inr rfl)) .nil))) (fun w9 st9 => ?_)
  refine wpList_nil ?_
  refine then_normal ?_
  refine wp_seq ?_
  refine wp_region_list ?_
  refine seg_n 3 st9 (.cons rfl (by decide) (.plain rfl (op_field File.fld3 rfl (by kernel_rfl) (opd_tmp rfl)))
    (.cons rfl (by decide) (.plain rfl (op_load rfl (by kernel_rfl) (opd_tmp rfl)))
    (.cons rfl (by decide) (.plain rfl (op_fieldBox File.fld3 rfl (by kernel_rfl) (opd_tmp rfl)))
    .nil)))
    (.cons (s := 0) rfl trivial (.cons (s := 1) rfl trivial (.cons (s := 2) rfl trivial (.cons (s := 3) rfl trivial (.cons (s := 14) rfl trivial (.cons (s := 15) rfl trivial .nil)))))) (fun a10 w10 e10 st10 => ?_)
  refine wpl_storeAt (sb := 3) st10 File.set3 rfl rfl rfl (by kernel_rfl) hb3 (.inr rfl) rfl (opd_tmp rfl) rfl (.cons (s := 0) rfl (fun _ _ h => h) (.cons (s := 1) rfl (fun _ _ h => h) (.cons (s := 2) rfl (draw_ne' hn3 (.inr rfl)) .nil))) (fun w11 st11 => ?_)
  refine wpList_nil ?_
  refine then_normal ?_
  refine wp_seq ?_
  refine wp_region_list ?_
  refine seg_n 3 st11 (.cons rfl (by decide) (.plain rfl (op_field File.fld4 rfl (by kernel_rfl) (opd_tmp rfl)))
    (.cons rfl (by decide) (.plain rfl (op_load rfl (by kernel_rfl) (opd_tmp rfl)))
    (.cons rfl (by decide) (.plain rfl (op_fieldBox File.fld4 rfl (by kernel_rfl) (opd_tmp rfl)))
    .nil)))
    (.cons (s := 0) rfl trivial (.cons (s := 1) rfl trivial (.cons (s := 2) rfl trivial (.cons (s := 3) rfl trivial (.cons (s := 17) rfl trivial (.cons (s := 18) rfl trivial .nil)))))) (fun a12 w12 e12 st12 => ?_)
  refine wpl_storeAt (sb := 3) st12 File.set4 rfl rfl rfl (by kernel_rfl) hb3 (.inr rfl) rfl (opd_tmp rfl) rfl (.cons (s := 0) rfl (fun _ _ h => h) (.cons (s := 1) rfl (fun _ _ h => h) (.cons (s := 2) rfl (draw_ne' hn3 (.inr rfl)) .nil))) (fun w13 st13 => ?_)
  refine wpList_nil ?_
  refine then_normal ?_
  refine wp_seq ?_
  refine wp_region_list ?_
  refine seg_n 4 st13 (.cons rfl (by decide) (.plain rfl (op_field File.fld5 rfl (by kernel_rfl) (opd_tmp rfl)))
    (.cons rfl (by decide) (.plain rfl (op_load rfl (by kernel_rfl) (opd_tmp rfl)))
    (.cons rfl (by decide) (.plain rfl (op_call (l := [.tmp 20]) rfl (by kernel_rfl) (.cons (opd_tmp rfl) .nil) (laws_toStmtS_ok _ hf.2.2.1)))
    (.cons rfl (by decide) (.plain rfl (op_fieldBox File.fld5 rfl (by kernel_rfl) (opd_tmp rfl)))
    .nil))))
    (.cons (s := 0) rfl trivial (.cons (s := 1) rfl trivial (.cons (s := 2) rfl trivial (.cons (s := 3) rfl trivial (.cons (s := 21) rfl trivial (.cons (s := 22) rfl trivial .nil)))))) (fun a14 w14 e14 st14 => ?_)
  refine wpl_storeAt (sb := 3) st14 File.set5 rfl rfl rfl (by kernel_rfl) hb3 (.inr rfl) rfl (opd_tmp rfl) rfl (.cons (s := 0) rfl (fun _ _ h => h) (.cons (s := 1) rfl (fun _ _ h => h) (.cons (s := 2) rfl (draw_ne' hn3 (.inr rfl)) .nil))) (fun w15 st15 => ?_)
  refine wpList_nil ?_
  refine then_normal ?_
  refine wp_seq ?_
  refine wp_region_list ?_
  refine seg_n 1 st15 (.cons rfl (by decide) (.plain rfl (op_loadBox rfl (by kernel_rfl) (opd_tmp rfl)))
    .nil)
    (.cons (s := 0) rfl trivial (.cons (s := 1) rfl trivial (.cons (s := 2) rfl trivial (.cons (s := 3) rfl trivial (.cons (s := 23) rfl trivial .nil))))) (fun a16 w16 e16 st16 => ?_)
  refine wpl_storeNew st16 rfl rfl rfl (by kernel_rfl) rfl hb2 (.inl (.inr rfl)) rfl (opd_tmp rfl) (.cons (s := 0) rfl (fun _ _ h => h) (.cons (s := 1) rfl (fun _ _ h => h) (.cons (s := 3) rfl (box_ne hn3 (.inr rfl)) .nil))) (fun w17 st17 => ?_)
  refine wpList_nil ?_
  refine then_normal ?_
  refine wp_ret ?_
  refine ret_box rfl (by kernel_rfl) st17 (t := 2) rfl (fun _ h => (.inl (.inl h))) ?_
  rfl

theorem laws_toFileS_ok (b : List File) (hb : b.length ≤ 1048576 ∧ ∀ f ∈ b, smFile f) : Fn Tryz.prog 59 [dt b] (dt b) := by
  refine fn_of_wp (fn := Tryz.f59) Tryz.func59 rfl (of_decide_eq_true rfl) (fun M w0 a0 hm st0 => ?_)
  have hbl := hb.1
  refine wp_seq ?_
  refine region_seg st0 (.cons rfl (by decide) (.plain rfl (op_assign rfl (opd_nil (α := File))))
    .nil)
    (.cons (s := 0) rfl trivial (.cons (s := 2) rfl trivial .nil)) (fun a1 w1 e1 st1 => ?_)
  refine then_normal ?_
  refine wp_seq ?_
  refine wp_region_list ?_
  refine seg_n 2 st1 (.cons rfl (by decide) (.plain rfl (op_move rfl (opd_tmp rfl)))
    (.cons rfl (by decide) (.plain rfl (op_lenL rfl (by kernel_rfl) (opd_tmp rfl)))
    .nil))
    (.cons (s := 0) rfl trivial (.cons (s := 2) rfl trivial (.cons (s := 6) rfl trivial .nil))) (fun a2 w2 e2 st2 => ?_)
  refine wpl_make (α := File) (e := 94) (bytes := 80) (zs := [[.int .i64 0], [.string ⟨⟨[]⟩⟩], [.string ⟨⟨[]⟩⟩], [.bool false], [.int .i64 0], [.slice none 0 0]].flatten) (d0 := (⟨0, ⟨[]⟩, ⟨[]⟩, false, 0, []⟩ : File)) st2 rfl rfl rfl (by decide) (by kernel_rfl) (by kernel_rfl) (fun _ _ => File.parts ⟨rfl, trivial⟩ zero_str zero_str ⟨rfl, trivial⟩ ⟨rfl, trivial⟩ zero_list) rfl (by show _ * 6 ≤ _; omega) (by omega) (by omega) (.cons (s := 0) rfl trivial (.cons (s := 2) rfl trivial .nil)) (fun g3 a3 w3 hg3 st3 => ?_)
  refine seg_n 1 st3 (.cons rfl (by decide) (.plain rfl (op_assign rfl (opd_tmp rfl)))
    .nil)
    (.cons (s := 0) rfl trivial (.cons (s := 2) rfl trivial (.cons (s := 3) rfl trivial .nil))) (fun a4 w4 e4 st4 => ?_)
  refine wpList_nil ?_
  refine then_normal ?_
  refine wp_seq ?_
  refine wp_seq ?_
  refine region_seg st4 (.cons rfl (by decide) (.plain rfl (op_assign rfl opd_int))
    .nil)
    (.cons (s := 0) rfl trivial (.cons (s := 2) rfl trivial (.cons (s := 3) rfl trivial (.cons (s := 4) rfl trivial .nil)))) (fun a5 w5 e5 st5 => ?_)
  refine then_normal ?_
  refine wp_block ?_
  refine loop_st (ι := Nat) (fun k a w => ∃ g, TipOK (Frm.of w0) M g ∧ St (Frm.of w0) 23 (insO g M) [(0, dt b), (3, dtip g 94 (copyTo (⟨0, ⟨[]⟩, ⟨[]⟩, false, 0, []⟩ : File) b k)), (4, dt (k : Int))] a w ∧ k ≤ b.length) (fun k => b.length - k) 0 ?_ ?_
  ·
    exact ⟨g3, hg3, st5.pick (.cons (s := 0) rfl trivial (.cons (s := 3) rfl trivial (.cons (s := 4) rfl trivial .nil))), Nat.zero_le _⟩
  ·
    rintro k a6 w6 ⟨g6, hg6, st6, hk⟩
    refine wp_seq ?_
    refine wp_seq ?_
    refine region_seg st6 (.cons rfl (by decide) (.plain rfl (op_move rfl (opd_tmp rfl)))
      (.cons rfl (by decide) (.plain rfl (op_move rfl (opd_tmp rfl)))
      (.cons rfl (by decide) (.plain rfl (op_lenL rfl (by kernel_rfl) (opd_tmp rfl)))
      (.cons rfl (by decide) (.plain rfl (op_cmpI rfl (by decide) (opd_tmp rfl) (opd_tmp rfl)))
      .nil))))
      (.cons (s := 0) rfl trivial (.cons (s := 3) rfl trivial (.cons (s := 4) rfl trivial (.cons (s := 11) rfl trivial .nil)))) (fun a7 w7 e7 st7 => ?_)
    refine then_normal ?_
    refine cond_split (c := 11) st7 rfl (fun h1 => ?_) (fun h1 => ?_)
    ·
      obtain ⟨x, hx⟩ := idx_of h1
      have hlt := lt_of_get hx
      refine wp_skip ?_
      refine then_normal ?_
      refine wp_seq ?_
      refine wp_block ?_
      refine wp_region_list ?_
      refine seg_n 8 st7 (.cons rfl (by decide) (.plain rfl (op_move rfl (opd_tmp rfl)))
        (.cons rfl (by decide) (.plain rfl (op_move rfl (opd_tmp rfl)))
        (.cons rfl (by decide) (.plain rfl (op_move rfl (opd_tmp rfl)))
        (.cons rfl (by decide) (.plain rfl (op_move rfl (opd_tmp rfl)))
        (.cons rfl (by decide) (.plain rfl (op_indexE rfl (by kernel_rfl) (opd_tmp rfl) (opd_tmp rfl) rfl hx))
        (.cons rfl (by decide) (.plain rfl (op_load rfl (by kernel_rfl) (opd_tmp rfl)))
        (.cons rfl (by decide) (.plain rfl (op_call (l := [.tmp 19]) rfl (by kernel_rfl) (.cons (opd_tmp rfl) .nil) (laws_toFile_ok _ (hb.2 _ (List.mem_of_getElem? hx)))))
        (.cons rfl (by decide) (.plain rfl (op_indexTipE rfl (by kernel_rfl) (opd_tmp rfl) (opd_tmp rfl) rfl (copyTo_at hx)))
        .nil))))))))
        (.cons (s := 0) rfl trivial (.cons (s := 3) rfl trivial (.cons (s := 4) rfl trivial (.cons (s := 11) rfl trivial (.cons (s := 20) rfl trivial (.cons (s := 21) rfl trivial .nil)))))) (fun a8 w8 e8 st8 => ?_)
      refine wpl_storeTip (sb := 3) (e := 94) st8 rfl rfl rfl (by kernel_rfl) rfl (opd_tmp rfl) rfl (copyTo_lt hx) hg6 (.cons (s := 0) rfl (fun _ _ h => h) (.cons (s := 4) rfl (fun _ _ h => h) (.cons (s := 11) rfl (fun _ _ h => h) .nil))) (fun w9 st9 => ?_)
      refine wpList_nil ?_
      refine blk_normal ?_
      refine then_normal ?_
      refine region_seg st9 (.cons rfl (by decide) (.plain rfl (op_move rfl (opd_tmp rfl)))
        (.cons rfl (by decide) (.plain rfl (op_arI rfl (by decide) (opd_tmp rfl) opd_int (by simp only [arI]; omega)))
        (.cons rfl (by decide) (.plain rfl (op_assign rfl (opd_tmp rfl)))
        .nil)))
        (.cons (s := 0) rfl trivial (.cons (s := 3) rfl trivial (.cons (s := 4) rfl trivial (.cons (s := 11) rfl trivial .nil)))) (fun a10 w10 e10 st10 => ?_)
      refine then_normal ⟨k+1, ⟨g6, hg6, ?_, by omega⟩, by omega⟩
      rw [copyTo_next hx]
      exact st10.pick (.cons (s := 0) rfl trivial (.cons (s := 3) rfl trivial (.cons (s := 4) rfl trivial .nil)))
    ·
      have hend := end_of h1
      refine wp_exit (thn_exit (thn_exit (exit_here ?_)))
      refine then_normal ?_
      refine wp_seq ?_
      refine region_seg st7 (.cons rfl (by decide) (.plain rfl (op_move rfl (opd_tmp rfl)))
        (.cons rfl (by decide) (.plain rfl (op_assign rfl (opd_tmp rfl)))
        .nil))
        (.cons (s := 0) rfl trivial (.cons (s := 2) rfl trivial (.cons (s := 3) rfl trivial (.cons (s := 4) rfl trivial (.cons (s := 11) rfl trivial .nil))))) (fun a11 w11 e11 st11 => ?_)
      refine then_normal ?_
      refine wp_ret ?_
      refine ret_tip rfl (hg6) (fun _ h => h) st11 (t := 2) rfl ?_
      exact copyTo_end hk hend

theorem laws_toTree_ok (t : Tree) (ht : smTree t) : Fn Tryz.prog 10 [dt t] (dt t) := by
  refine fn_of_wp (fn := Tryz.f10) Tryz.func10 rfl (of_decide_eq_true rfl) (fun M w0 a0 hm st0 => ?_)
  refine wp_seq ?_
  refine wp_region_list ?_
  refine seg_n 1 st0 (.cons rfl (by decide) (.plain rfl (op_box rfl (opd_tmp rfl)))
    .nil)
    (.cons (s := 0) rfl trivial (.cons (s := 1) rfl trivial .nil)) (fun a1 w1 e1 st1 => ?_)
  refine wpl_alloc (n := 1) st1 rfl rfl rfl (by decide) (by kernel_rfl) (.cons (s := 0) rfl trivial (.cons (s := 1) rfl trivial .nil)) (fun b2 a2 w2 hb2 hn2 e2 st2 => ?_)
  refine wpList_nil ?_
  refine then_normal ?_
  refine wp_seq ?_
  refine wp_region_list ?_
  refine wpl_allocZ (zs := [[.slice none 0 0]].flatten) (d0 := (⟨[]⟩ : Tree)) st2 rfl rfl rfl (by decide) (by kernel_rfl) (fun _ _ => Tree.parts zero_list) (.cons (s := 0) rfl trivial (.cons (s := 1) rfl trivial (.cons (s := 2) rfl trivial .nil))) (fun b3 a3 w3 hb3 hn3 e3 st3 => ?_)
  refine wpList_nil ?_
  refine then_normal ?_
  refine wp_seq ?_
  refine wp_region_list ?_
  refine seg_n 4 st3 (.cons rfl (by decide) (.plain rfl (op_field Tree.fld0 rfl (by kernel_rfl) (opd_tmp rfl)))
    (.cons rfl (by decide) (.plain rfl (op_load rfl (by kernel_rfl) (opd_tmp rfl)))
    (.cons rfl (by decide) (.plain rfl (op_call (l := [.tmp 5]) rfl (by kernel_rfl) (.cons (opd_tmp rfl) .nil) (laws_toFileS_ok _ ht)))
    (.cons rfl (by decide) (.plain rfl (op_fieldBox Tree.fld0 rfl (by kernel_rfl) (opd_tmp rfl)))
    .nil))))
    (.cons (s := 0) rfl trivial (.cons (s := 1) rfl trivial (.cons (s := 2) rfl trivial (.cons (s := 3) rfl trivial (.cons (s := 6) rfl trivial (.cons (s := 7) rfl trivial .nil)))))) (fun a4 w4 e4 st4 => ?_)
  refine wpl_storeAt (sb := 3) st4 Tree.set0 rfl rfl rfl (by kernel_rfl) hb3 (.inr rfl) rfl (opd_tmp rfl) rfl (.cons (s := 0) rfl (fun _ _ h => h) (.cons (s := 1) rfl (fun _ _ h => h) (.cons (s := 2) rfl (draw_ne' hn3 (.inr rfl)) .nil))) (fun w5 st5 => ?_)
  refine wpList_nil ?_
  refine then_normal ?_
  refine wp_seq ?_
  refine wp_region_list ?_
  refine seg_n 1 st5 (.cons rfl (by decide) (.plain rfl (op_loadBox rfl (by kernel_rfl) (opd_tmp rfl)))
    .nil)
    (.cons (s := 0) rfl trivial (.cons (s := 1) rfl trivial (.cons (s := 2) rfl trivial (.cons (s := 3) rfl trivial (.cons (s := 8) rfl trivial .nil))))) (fun a6 w6 e6 st6 => ?_)
  refine wpl_storeNew st6 rfl rfl rfl (by kernel_rfl) rfl hb2 (.inl (.inr rfl)) rfl (opd_tmp rfl) (.cons (s := 0) rfl (fun _ _ h => h) (.cons (s := 1) rfl (fun _ _ h => h) (.cons (s := 3) rfl (box_ne hn3 (.inr rfl)) .nil))) (fun w7 st7 => ?_)
  refine wpList_nil ?_
  refine then_normal ?_
  refine wp_ret ?_
  refine ret_box rfl (by kernel_rfl) st7 (t := 2) rfl (fun _ h => (.inl (.inl h))) ?_
  rfl

end Go.Proofs.YtionokffhhiicaaGreatDoor
