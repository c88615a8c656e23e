/-
  Walks of functions, printed by a program of our own (wip/gen.py).
  Walks of functions, printed by a program of our own (wip/gen.py).
-/
import Derived.Test.YtbnibckkfknpkaaGreatDoorProg
import Derived.Test.YtbnibckkfknpkaaGreatDoorLBM
import Derived.Test.YtbnibckkfknpkaaGreatDoorLAM
namespace Go.Proofs.YtbnibckkfknpkaaGreatDoor
open Go.RowKit
set_option maxRecDepth 10000
theorem Tryz_mixed : Tryz.prog.follows .mixedOrders = true := by kernel_rfl
theorem spec_inRange_ok (n lo up : Int) : Fn Tryz.prog 99 [dt n, dt lo, dt up] (dt (inR n lo up)) := by
 refine fn_of_wp (fn := Tryz.f99) Tryz.func99 rfl (of_decide_eq_true rfl) (fun M w0 a0 hm st0 => ?_)
 refine wp_seq ?_
 refine region_seg st0 (sc rfl ((op_assign rfl opd_bool))
  .nil)
  (kc 0 rfl (kc 1 rfl (kc 2 rfl (kc 6 rfl .nil)))) (fun a1 w1 e1 st1 => ?_)
 refine then_normal (wp_seq ?_)
 refine region_seg st1 (sc rfl ((op_move rfl (opd_tmp rfl)))
  (sc rfl ((op_move rfl (opd_tmp rfl)))
  (sc rfl ((op_cmpI rfl (by decide) (opd_tmp rfl) (opd_tmp rfl)))
  (sc rfl ((op_move rfl (opd_tmp rfl)))
  (.cons rfl (by decide) (.guarded rfl rfl (by decide) rfl dt_bv (fun hg => op_move rfl (opd_tmp rfl)))
  (.cons rfl (by decide) (.guarded rfl rfl (by decide) rfl dt_bv (fun hg => op_move rfl (opd_tmp rfl)))
  (.cons rfl (by decide) (.guarded rfl rfl (by decide) rfl dt_bv (fun hg => op_cmpI rfl (by decide) (opd_g hg rfl) (opd_g hg rfl)))
  (sc rfl ((op_and rfl (opd_tmp rfl) (opd_tmp rfl)))
  (sc rfl ((op_assign rfl (opd_tmp rfl)))
  .nil)))))))))
  (kc 0 rfl (kc 1 rfl (kc 2 rfl (kc 6 rfl .nil)))) (fun a2 w2 e2 st2 => ?_)
 refine then_normal (wp_ret ?_)
 refine ret_dtM rfl (fun _ h => h) st2 (t := 6) rfl ?_
 rfl
theorem spec_textAt_ok (l : List Str) (s : Str) : Fn Tryz.prog 131 [dt l, dt s] (dt (textAt l s)) := by
 refine fn_of_wp (fn := Tryz.f131) Tryz.func131 rfl (of_decide_eq_true rfl) (fun M w0 a0 hm st0 => ?_)
 have hlen := st0.lenL (s := 0) rfl
 refine wp_seq ?_
 refine region_seg st0 (sc rfl ((op_assign rfl opd_int))
  .nil)
  (kc 0 rfl (kc 1 rfl (kc 4 rfl .nil))) (fun a1 w1 e1 st1 => ?_)
 refine then_normal (wp_seq (wp_seq ?_))
 refine region_seg st1 (sc rfl ((op_assign rfl opd_int))
  .nil)
  (kc 0 rfl (kc 1 rfl (kc 4 rfl (kc 5 rfl .nil)))) (fun a2 w2 e2 st2 => ?_)
 refine then_normal (wp_block ?_)
 refine loop_st (ι := Nat) (fun k a w => St (Frm.of w0) 19 M [(0, dt l), (1, dt s), (5, dt (k : Int))] a w /\ k <= l.length /\ (l.take k).any (fun x => decide (x = s)) = false) (fun k => l.length - k) 0 ?_ ?_
 ·
  exact ⟨st2.pick (kc 0 rfl (kc 1 rfl (kc 5 rfl .nil))), Nat.zero_le _, by simp⟩
 ·
  rintro k a3 w3 ⟨st3, hk, hp⟩
  refine wp_seq (wp_seq ?_)
  refine region_seg st3 (sc rfl ((op_move rfl (opd_tmp rfl)))
   (sc rfl ((op_move rfl (opd_tmp rfl)))
   (sc rfl ((op_lenL rfl (by kernel_rfl) (opd_tmp rfl)))
   (sc rfl ((op_cmpI rfl (by decide) (opd_tmp rfl) (opd_tmp rfl)))
   .nil))))
   (kc 0 rfl (kc 1 rfl (kc 5 rfl (kc 9 rfl .nil)))) (fun a4 w4 e4 st4 => ?_)
  refine then_normal ?_
  refine cond_split (c := 9) st4 rfl (fun h1 => ?_) (fun h1 => ?_)
  ·
   obtain ⟨x, hx⟩ := idx_of h1
   have hlt := lt_of_get hx
   refine wp_skip (then_normal (wp_seq (wp_block (wp_seq ?_))))
   refine region_seg st4 (sc rfl ((op_move rfl (opd_tmp rfl)))
    (sc rfl ((op_move rfl (opd_tmp rfl)))
    (sc rfl ((op_indexE rfl (by kernel_rfl) (opd_tmp rfl) (opd_tmp rfl) rfl (by assumption)))
    (sc rfl ((op_load rfl (by kernel_rfl) (opd_tmp rfl)))
    (sc rfl ((op_move rfl (opd_tmp rfl)))
    (sc rfl ((op_eqS rfl (opd_tmp rfl) (opd_tmp rfl)))
    .nil))))))
    (kc 0 rfl (kc 1 rfl (kc 5 rfl (kc 9 rfl (kc 17 rfl .nil))))) (fun a5 w5 e5 st5 => ?_)
   refine then_normal ?_
   refine cond_split (c := 17) st5 rfl (fun h2 => ?_) (fun h2 => ?_)
   ·
    have ht := h2
    refine wp_seq ?_
    refine region_seg st5 (sc rfl ((op_move rfl (opd_tmp rfl)))
     (sc rfl ((op_assign rfl (opd_tmp rfl)))
     .nil))
     (kc 0 rfl (kc 1 rfl (kc 4 rfl (kc 5 rfl (kc 9 rfl (kc 17 rfl .nil)))))) (fun a6 w6 e6 st6 => ?_)
    refine then_normal ?_
    refine wp_ret (blk_ret (thn_ret (thn_ret (blk_ret (thn_ret ?_)))))
    refine ret_dtM rfl (fun _ h => h) st6 (t := 4) rfl ?_
    exact (idx_hit hp hx ht).symm
   ·
    have hf := h2
    refine wp_skip (blk_normal (then_normal ?_))
    refine region_seg st5 (sc rfl ((op_move rfl (opd_tmp rfl)))
     (sc rfl ((op_arI rfl (by decide) (opd_tmp rfl) opd_int (by simp only [arI]; omega)))
     (sc rfl ((op_assign rfl (opd_tmp rfl)))
     .nil)))
     (kc 0 rfl (kc 1 rfl (kc 5 rfl (kc 9 rfl (kc 17 rfl .nil))))) (fun a7 w7 e7 st7 => ?_)
    refine then_normal ⟨k+1, ⟨st7.pick (kc 0 rfl (kc 1 rfl (kc 5 rfl .nil))), by omega, any_next hx hp hf⟩, by omega⟩
  ·
   have hend := end_of h1
   refine wp_exit (thn_exit (thn_exit (exit_here ?_)))
   refine then_normal (wp_seq ?_)
   refine region_seg st4 (sc rfl ((op_assign rfl opd_int))
    .nil)
    (kc 0 rfl (kc 1 rfl (kc 4 rfl (kc 5 rfl (kc 9 rfl .nil))))) (fun a8 w8 e8 st8 => ?_)
   refine then_normal (wp_ret ?_)
   refine ret_dtM rfl (fun _ h => h) st8 (t := 4) rfl ?_
   exact (idx_end hend hp).symm
theorem spec_hasText_ok (l : List Str) (s : Str) : Fn Tryz.prog 93 [dt l, dt s] (dt (hasText l s)) := by
 refine fn_of_wp (fn := Tryz.f93) Tryz.func93 rfl (of_decide_eq_true rfl) (fun M w0 a0 hm st0 => ?_)
 refine wp_seq ?_
 refine region_seg st0 (sc rfl ((op_assign rfl opd_bool))
  .nil)
  (kc 0 rfl (kc 1 rfl (kc 4 rfl .nil))) (fun a1 w1 e1 st1 => ?_)
 refine then_normal (wp_seq ?_)
 refine region_seg st1 (sc rfl ((op_move rfl (opd_tmp rfl)))
  (sc rfl ((op_move rfl (opd_tmp rfl)))
  (sc rfl ((op_call (l := [.tmp 5, .tmp 6]) rfl (by kernel_rfl) (.cons (opd_tmp rfl) (.cons (opd_tmp rfl) .nil)) (spec_textAt_ok _ _)))
  (sc rfl ((op_cmpI rfl (by decide) (opd_tmp rfl) opd_int))
  (sc rfl ((op_assign rfl (opd_tmp rfl)))
  .nil)))))
  (kc 0 rfl (kc 1 rfl (kc 4 rfl .nil))) (fun a2 w2 e2 st2 => ?_)
 refine then_normal (wp_ret ?_)
 refine ret_dtM rfl (fun _ h => h) st2 (t := 4) rfl ?_
 rfl
theorem spec_validPart_ok (s : Str) : Fn Tryz.prog 102 [dt s] (dt (validPart s)) := by
 refine fn_of_wp (fn := Tryz.f102) Tryz.func102 rfl (of_decide_eq_true rfl) (fun M w0 a0 hm st0 => ?_)
 have hlen : s.l.length <= 9223372036854775807 := st0.lenS (s := 0) rfl
 refine wp_seq ?_
 refine region_seg st0 (sc rfl ((op_assign rfl opd_bool))
  .nil)
  (kc 0 rfl (kc 2 rfl .nil)) (fun a1 w1 e1 st1 => ?_)
 refine then_normal (wp_seq (wp_seq ?_))
 refine region_seg st1 (sc rfl ((op_move rfl (opd_tmp rfl)))
  (sc rfl ((op_lenS rfl (by kernel_rfl) (opd_tmp rfl)))
  (sc rfl ((op_call (l := [.tmp 5, .const (.int .i64 1), .const (.int .i64 3)]) rfl (by kernel_rfl) (.cons (opd_tmp rfl) (.cons opd_int (.cons opd_int .nil))) (spec_inRange_ok _ _ _)))
  (sc rfl ((op_not rfl (opd_tmp rfl)))
  .nil))))
  (kc 0 rfl (kc 2 rfl (kc 7 rfl .nil))) (fun a2 w2 e2 st2 => ?_)
 refine then_normal ?_
 refine cond_split (c := 7) st2 rfl (fun h1 => ?_) (fun h1 => ?_)
 ·
  have h7 := h1
  refine wp_seq ?_
  refine region_seg st2 (sc rfl ((op_assign rfl opd_bool))
   .nil)
   (kc 0 rfl (kc 2 rfl (kc 7 rfl .nil))) (fun a3 w3 e3 st3 => ?_)
  refine then_normal ?_
  refine wp_ret (thn_ret ?_)
  refine ret_dtM rfl (fun _ h => h) st3 (t := 2) rfl ?_
  unfold validPart
  rw [Bool.not_eq_true'] at h7
  simp [h7]
 ·
  have h7 := h1
  refine wp_skip (then_normal (wp_seq (wp_seq ?_)))
  refine region_seg st2 (sc rfl ((op_assign rfl opd_int))
   .nil)
   (kc 0 rfl (kc 2 rfl (kc 3 rfl (kc 7 rfl .nil)))) (fun a4 w4 e4 st4 => ?_)
  refine then_normal (wp_block ?_)
  refine loop_st (ι := Nat) (fun k a w => St (Frm.of w0) 24 M [(0, dt s), (3, dt (k : Int))] a w /\ k <= s.l.length /\ (s.l.take k).all low = true) (fun k => s.l.length - k) 0 ?_ ?_
  ·
   exact ⟨st4.pick (kc 0 rfl (kc 3 rfl .nil)), Nat.zero_le _, by simp⟩
  ·
   rintro k a5 w5 ⟨st5, hk, hp⟩
   refine wp_seq (wp_seq ?_)
   refine region_seg st5 (sc rfl ((op_move rfl (opd_tmp rfl)))
    (sc rfl ((op_move rfl (opd_tmp rfl)))
    (sc rfl ((op_lenS rfl (by kernel_rfl) (opd_tmp rfl)))
    (sc rfl ((op_cmpI rfl (by decide) (opd_tmp rfl) (opd_tmp rfl)))
    .nil))))
    (kc 0 rfl (kc 3 rfl (kc 11 rfl .nil))) (fun a6 w6 e6 st6 => ?_)
   refine then_normal ?_
   refine cond_split (c := 11) st6 rfl (fun h2 => ?_) (fun h2 => ?_)
   ·
    obtain ⟨x, hx⟩ := idxS_of h2
    have hlt := lt_of_get hx
    refine wp_skip (then_normal (wp_seq (wp_block (wp_seq ?_))))
    refine region_seg st6 (sc rfl ((op_move rfl (opd_tmp rfl)))
     (sc rfl ((op_move rfl (opd_tmp rfl)))
     (sc rfl ((op_byte rfl (by kernel_rfl) (opd_tmp rfl) (opd_tmp rfl) (by assumption)))
     (sc rfl ((op_cmpB rfl (by decide) (opd_tmp rfl) (opd_u8 (by decide))))
     (sc rfl ((op_move rfl (opd_tmp rfl)))
     (.cons rfl (by decide) (.guarded rfl rfl (by decide) rfl dt_bv (fun hg => op_move rfl (opd_tmp rfl)))
     (.cons rfl (by decide) (.guarded rfl rfl (by decide) rfl dt_bv (fun hg => op_move rfl (opd_tmp rfl)))
     (.cons rfl (by decide) (.guarded rfl rfl (by decide) rfl dt_bv (fun hg => op_byte rfl (by kernel_rfl) (opd_g hg rfl) (opd_g hg rfl) (by assumption)))
     (.cons rfl (by decide) (.guarded rfl rfl (by decide) rfl dt_bv (fun hg => op_cmpB rfl (by decide) (opd_g hg rfl) (opd_u8 (by decide))))
     (sc rfl ((op_or rfl (opd_tmp rfl) (opd_tmp rfl)))
     .nil))))))))))
     (kc 0 rfl (kc 3 rfl (kc 11 rfl (kc 23 rfl .nil)))) (fun a7 w7 e7 st7 => ?_)
    refine then_normal ?_
    refine cond_split (c := 23) st7 rfl (fun h3 => ?_) (fun h3 => ?_)
    ·
     have ht := h3
     refine wp_seq ?_
     refine region_seg st7 (sc rfl ((op_assign rfl opd_bool))
      .nil)
      (kc 0 rfl (kc 2 rfl (kc 3 rfl (kc 11 rfl (kc 23 rfl .nil))))) (fun a8 w8 e8 st8 => ?_)
     refine then_normal ?_
     refine wp_ret (blk_ret (thn_ret (thn_ret (blk_ret (thn_ret ?_)))))
     refine ret_dtM rfl (fun _ h => h) st8 (t := 2) rfl ?_
     unfold validPart
     rw [all_fail (p := low) hx (by unfold low; rw [ht]; rfl)]
     simp
    ·
     have hf := h3
     refine wp_skip (blk_normal (then_normal ?_))
     refine region_seg st7 (sc rfl ((op_move rfl (opd_tmp rfl)))
      (sc rfl ((op_arI rfl (by decide) (opd_tmp rfl) opd_int (by simp only [arI]; omega)))
      (sc rfl ((op_assign rfl (opd_tmp rfl)))
      .nil)))
      (kc 0 rfl (kc 3 rfl (kc 11 rfl (kc 23 rfl .nil)))) (fun a9 w9 e9 st9 => ?_)
     refine then_normal ⟨k+1, ⟨st9.pick (kc 0 rfl (kc 3 rfl .nil)), by omega, all_next hx hp (by unfold low; rw [hf]; rfl)⟩, by omega⟩
   ·
    have hend := endS_of h2
    refine wp_exit (thn_exit (thn_exit (exit_here ?_)))
    refine then_normal (wp_seq ?_)
    refine region_seg st6 (sc rfl ((op_assign rfl opd_bool))
     .nil)
     (kc 0 rfl (kc 2 rfl (kc 3 rfl (kc 11 rfl .nil)))) (fun a10 w10 e10 st10 => ?_)
    refine then_normal (wp_ret ?_)
    refine ret_dtM rfl (fun _ h => h) st10 (t := 2) rfl ?_
    unfold validPart
    rw [all_end hend hp]
    rw [Bool.not_eq_false'] at h7
    exact (by simpa using h7.symm)
theorem spec_splitAt_ok (s : Str) (c : UInt8) (hs : mid s) : Fn Tryz.prog 101 [dt s, dt c] (dt (splitAt s c)) := by
 refine fn_of_wp (fn := Tryz.f101) Tryz.func101 rfl (of_decide_eq_true rfl) (fun M w0 a0 hm st0 => ?_)
 have hlen : s.l.length <= 1099511627776 := hs
 refine wp_seq ?_
 refine region_seg st0 (sc rfl ((op_assign rfl (opd_nil (α := Str))))
  .nil)
  (kc 0 rfl (kc 1 rfl (kc 4 rfl .nil))) (fun a1 w1 e1 st1 => ?_)
 refine then_normal (wp_seq ?_)
 refine region_seg st1 (sc rfl ((op_lit0 (α := Str) (e := 9) rfl (by kernel_rfl)))
  (sc rfl ((op_assign rfl (opd_tmp rfl)))
  .nil))
  (kc 0 rfl (kc 1 rfl (kc 4 rfl (kc 5 rfl .nil)))) (fun a2 w2 e2 st2 => ?_)
 refine then_normal (wp_seq ?_)
 refine region_seg st2 (sc rfl ((op_assign rfl opd_int))
  .nil)
  (kc 0 rfl (kc 1 rfl (kc 4 rfl (kc 5 rfl (kc 6 rfl .nil))))) (fun a3 w3 e3 st3 => ?_)
 refine then_normal (wp_seq (wp_seq ?_))
 refine region_seg st3 (sc rfl ((op_assign rfl opd_int))
  .nil)
  (kc 0 rfl (kc 1 rfl (kc 4 rfl (kc 5 rfl (kc 6 rfl (kc 7 rfl .nil)))))) (fun a4 w4 e4 st4 => ?_)
 refine then_normal (wp_block ?_)
 refine loop_st (ι := Nat × Nat) (fun p a w => ∃ g, TipOK (Frm.of w0) M g /\ St (Frm.of w0) 35 (insO g M) [(0, dt s), (1, dt c), (5, dtip g 9 (splitRun c (s.l.take p.1)).1), (6, dt (p.2 : Int)), (7, dt (p.1 : Int))] a w /\ p.1 <= s.l.length /\ p.2 <= p.1 /\ (splitRun c (s.l.take p.1)).2 = ⟨(s.l.take p.1).drop p.2⟩ /\ (splitRun c (s.l.take p.1)).1.length <= p.1) (fun p => s.l.length - p.1) (0, 0) ?_ ?_
 ·
  exact ⟨none, TipOK.none_, st4.ins0.pick (kc 0 rfl (kc 1 rfl (kc 5 rfl (kc 6 rfl (kc 7 rfl .nil))))), Nat.zero_le _, Nat.le_refl _, rfl, Nat.le_refl _⟩
 ·
  rintro ⟨k, b⟩ a5 w5 ⟨g5, hg5, st5, hk, hb, g2, g1⟩
  dsimp only at *
  refine wp_seq (wp_seq ?_)
  refine region_seg st5 (sc rfl ((op_move rfl (opd_tmp rfl)))
   (sc rfl ((op_move rfl (opd_tmp rfl)))
   (sc rfl ((op_lenS rfl (by kernel_rfl) (opd_tmp rfl)))
   (sc rfl ((op_cmpI rfl (by decide) (opd_tmp rfl) (opd_tmp rfl)))
   .nil))))
   (kc 0 rfl (kc 1 rfl (kc 5 rfl (kc 6 rfl (kc 7 rfl (kc 12 rfl .nil)))))) (fun a6 w6 e6 st6 => ?_)
  refine then_normal ?_
  refine cond_split (c := 12) st6 rfl (fun h1 => ?_) (fun h1 => ?_)
  ·
   obtain ⟨x, hx⟩ := idxS_of h1
   have hlt := lt_of_get hx
   refine wp_skip (then_normal (wp_seq (wp_block (wp_seq ?_))))
   refine region_seg st6 (sc rfl ((op_move rfl (opd_tmp rfl)))
    (sc rfl ((op_move rfl (opd_tmp rfl)))
    (sc rfl ((op_byte rfl (by kernel_rfl) (opd_tmp rfl) (opd_tmp rfl) (by assumption)))
    (sc rfl ((op_move rfl (opd_tmp rfl)))
    (sc rfl ((op_cmpB rfl (by decide) (opd_tmp rfl) (opd_tmp rfl)))
    .nil)))))
    (kc 0 rfl (kc 1 rfl (kc 5 rfl (kc 6 rfl (kc 7 rfl (kc 12 rfl (kc 19 rfl .nil))))))) (fun a7 w7 e7 st7 => ?_)
   refine then_normal ?_
   refine cond_split (c := 19) st7 rfl (fun h2 => ?_) (fun h2 => ?_)
   ·
    have ht := h2
    refine wp_seq (wp_region_list ?_)
    refine seg_n 6 st7 (sc rfl ((op_move rfl (opd_tmp rfl)))
     (sc rfl ((op_move rfl (opd_tmp rfl)))
     (sc rfl ((op_move rfl (opd_tmp rfl)))
     (sc rfl ((op_move rfl (opd_tmp rfl)))
     (sc rfl ((op_cutLH rfl (by kernel_rfl) (opd_tmp rfl) (opd_tmp rfl) (opd_tmp rfl) (by omega) (by omega) (by omega)))
     (sc rfl ((op_lit (opds := [.tmp 24]) rfl (by kernel_rfl) (by kernel_rfl) rfl rfl (by decide) (.cons (opd_tmp rfl) .nil)))
     .nil))))))
     (kc 0 rfl (kc 1 rfl (kc 5 rfl (kc 6 rfl (kc 7 rfl (kc 12 rfl (kc 19 rfl (kc 20 rfl (kc 25 rfl .nil))))))))) (fun a8 w8 e8 st8 => ?_)
    refine wpl_append (bytes := 16) (st8) rfl rfl rfl (by decide) (by kernel_rfl) rfl rfl row_dt (len1 (by omega)) (len1b (by omega)) (.cons (s := 0) rfl (fun _ _ h => h) (.cons (s := 1) rfl (fun _ _ h => h) (.cons (s := 6) rfl (fun _ _ h => h) (.cons (s := 7) rfl (fun _ _ h => h) (.cons (s := 12) rfl (fun _ _ h => h) (.cons (s := 19) rfl (fun _ _ h => h) .nil)))))) (hg5) (fun g9 a9 w9 hg9 st9 => ?_)
    refine seg_n 1 st9 (sc rfl ((op_assign rfl (opd_tmp rfl)))
     .nil)
     (kc 0 rfl (kc 1 rfl (kc 5 rfl (kc 6 rfl (kc 7 rfl (kc 12 rfl (kc 19 rfl .nil))))))) (fun a10 w10 e10 st10 => ?_)
    refine wpList_nil (then_normal ?_)
    refine region_seg st10 (sc rfl ((op_move rfl (opd_tmp rfl)))
     (sc rfl ((op_arI rfl (by decide) (opd_tmp rfl) opd_int (by simp only [arI]; omega)))
     (sc rfl ((op_assign rfl (opd_tmp rfl)))
     .nil)))
     (kc 0 rfl (kc 1 rfl (kc 5 rfl (kc 6 rfl (kc 7 rfl (kc 12 rfl (kc 19 rfl .nil))))))) (fun a11 w11 e11 st11 => ?_)
    refine blk_normal (then_normal ?_)
    refine region_seg st11 (sc rfl ((op_move rfl (opd_tmp rfl)))
     (sc rfl ((op_arI rfl (by decide) (opd_tmp rfl) opd_int (by simp only [arI]; omega)))
     (sc rfl ((op_assign rfl (opd_tmp rfl)))
     .nil)))
     (kc 0 rfl (kc 1 rfl (kc 5 rfl (kc 6 rfl (kc 7 rfl (kc 12 rfl (kc 19 rfl .nil))))))) (fun a12 w12 e12 st12 => ?_)
    refine then_normal ⟨(k+1, k+1), ⟨g9, hg9, ?_, by dsimp only; omega, by dsimp only; omega, split_hit2 hx ht hlt, by dsimp only; rw [split_hit1 hx ht g2, List.length_append]; exact Nat.succ_le_succ g1⟩, by dsimp only; omega⟩
    dsimp only; first | rw [split_hit1 hx ht g2] | rw [split_miss1 hx hf]
    exact st12.pick (kc 0 rfl (kc 1 rfl (kc 5 rfl (kc 6 rfl (kc 7 rfl .nil)))))
   ·
    have hf := h2
    refine wp_skip (blk_normal (then_normal ?_))
    refine region_seg st7 (sc rfl ((op_move rfl (opd_tmp rfl)))
     (sc rfl ((op_arI rfl (by decide) (opd_tmp rfl) opd_int (by simp only [arI]; omega)))
     (sc rfl ((op_assign rfl (opd_tmp rfl)))
     .nil)))
     (kc 0 rfl (kc 1 rfl (kc 5 rfl (kc 6 rfl (kc 7 rfl (kc 12 rfl (kc 19 rfl .nil))))))) (fun a13 w13 e13 st13 => ?_)
    refine then_normal ⟨(k+1, b), ⟨g5, hg5, ?_, by dsimp only; omega, by dsimp only; omega, split_miss2 hx hf g2 hb hlt, by dsimp only; rw [split_miss1 hx hf]; omega⟩, by dsimp only; omega⟩
    dsimp only; first | rw [split_hit1 hx ht g2] | rw [split_miss1 hx hf]
    exact st13.pick (kc 0 rfl (kc 1 rfl (kc 5 rfl (kc 6 rfl (kc 7 rfl .nil)))))
  ·
   have hend := endS_of h1
   refine wp_exit (thn_exit (thn_exit (exit_here ?_)))
   refine then_normal (wp_seq (wp_region_list ?_))
   refine seg_n 5 st6 (sc rfl ((op_move rfl (opd_tmp rfl)))
    (sc rfl ((op_move rfl (opd_tmp rfl)))
    (sc rfl ((op_move rfl (opd_tmp rfl)))
    (sc rfl ((op_cutL rfl (by kernel_rfl) (opd_tmp rfl) (opd_tmp rfl) (by omega) (by omega)))
    (sc rfl ((op_lit (opds := [.tmp 32]) rfl (by kernel_rfl) (by kernel_rfl) rfl rfl (by decide) (.cons (opd_tmp rfl) .nil)))
    .nil)))))
    (kc 0 rfl (kc 1 rfl (kc 5 rfl (kc 6 rfl (kc 7 rfl (kc 12 rfl (kc 29 rfl (kc 33 rfl .nil)))))))) (fun a14 w14 e14 st14 => ?_)
   refine wpl_append (bytes := 16) (st14) rfl rfl rfl (by decide) (by kernel_rfl) rfl rfl row_dt (len1 (by omega)) (len1b (by omega)) (.cons (s := 0) rfl (fun _ _ h => h) (.cons (s := 1) rfl (fun _ _ h => h) (.cons (s := 6) rfl (fun _ _ h => h) (.cons (s := 7) rfl (fun _ _ h => h) (.cons (s := 12) rfl (fun _ _ h => h) .nil))))) (hg5) (fun g15 a15 w15 hg15 st15 => ?_)
   refine seg_n 1 st15 (sc rfl ((op_assign rfl (opd_tmp rfl)))
    .nil)
    (kc 0 rfl (kc 1 rfl (kc 4 rfl (kc 6 rfl (kc 7 rfl (kc 12 rfl .nil)))))) (fun a16 w16 e16 st16 => ?_)
   refine wpList_nil (then_normal (wp_ret ?_))
   refine ret_tip rfl (hg15) (fun _ h => h) st16 (t := 4) rfl ?_
   exact split_end hend g2
theorem spec_validName_ok (s : Str) (hs : mid s) : Fn Tryz.prog 53 [dt s] (dt (validName s)) := by
 refine fn_of_wp (fn := Tryz.f53) Tryz.func53 rfl (of_decide_eq_true rfl) (fun M w0 a0 hm st0 => ?_)
 refine wp_seq ?_
 refine region_seg st0 (sc rfl ((op_assign rfl opd_bool))
  .nil)
  (kc 0 rfl (kc 2 rfl .nil)) (fun a1 w1 e1 st1 => ?_)
 refine then_normal (wp_seq ?_)
 refine region_seg st1 (sc rfl ((op_move rfl (opd_tmp rfl)))
  (sc rfl ((op_call (l := [.tmp 5, .const (.int .u8 46)]) rfl (by kernel_rfl) (.cons (opd_tmp rfl) (.cons (opd_u8 (by decide)) .nil)) (spec_splitAt_ok _ dot (by assumption))))
  (sc rfl ((op_assign rfl (opd_tmp rfl)))
  .nil)))
  (kc 0 rfl (kc 2 rfl (kc 3 rfl .nil))) (fun a2 w2 e2 st2 => ?_)
 refine then_normal (wp_seq (wp_seq ?_))
 refine region_seg st2 (sc rfl ((op_assign rfl opd_int))
  .nil)
  (kc 0 rfl (kc 2 rfl (kc 3 rfl (kc 4 rfl .nil)))) (fun a3 w3 e3 st3 => ?_)
 refine then_normal (wp_block ?_)
 refine loop_st (ι := Nat) (fun k a w => St (Frm.of w0) 22 M [(0, dt s), (3, dt (splitAt s dot)), (4, dt (k : Int))] a w /\ k <= (splitAt s dot).length /\ ((splitAt s dot).take k).all validPart = true) (fun k => (splitAt s dot).length - k) 0 ?_ ?_
 ·
  exact ⟨st3.pick (kc 0 rfl (kc 3 rfl (kc 4 rfl .nil))), Nat.zero_le _, by simp⟩
 ·
  rintro k a4 w4 ⟨st4, hk, hp⟩
  have hlen := st4.lenL (s := 3) rfl
  refine wp_seq (wp_seq ?_)
  refine region_seg st4 (sc rfl ((op_move rfl (opd_tmp rfl)))
   (sc rfl ((op_move rfl (opd_tmp rfl)))
   (sc rfl ((op_lenL rfl (by kernel_rfl) (opd_tmp rfl)))
   (sc rfl ((op_cmpI rfl (by decide) (opd_tmp rfl) (opd_tmp rfl)))
   .nil))))
   (kc 0 rfl (kc 3 rfl (kc 4 rfl (kc 10 rfl .nil)))) (fun a5 w5 e5 st5 => ?_)
  refine then_normal ?_
  refine cond_split (c := 10) st5 rfl (fun h1 => ?_) (fun h1 => ?_)
  ·
   obtain ⟨x, hx⟩ := idx_of h1
   have hlt := lt_of_get hx
   refine wp_skip (then_normal (wp_seq (wp_block (wp_seq ?_))))
   refine region_seg st5 (sc rfl ((op_move rfl (opd_tmp rfl)))
    (sc rfl ((op_move rfl (opd_tmp rfl)))
    (sc rfl ((op_indexE rfl (by kernel_rfl) (opd_tmp rfl) (opd_tmp rfl) rfl (by assumption)))
    (sc rfl ((op_load rfl (by kernel_rfl) (opd_tmp rfl)))
    (sc rfl ((op_call (l := [.tmp 16]) rfl (by kernel_rfl) (.cons (opd_tmp rfl) .nil) (spec_validPart_ok _)))
    (sc rfl ((op_not rfl (opd_tmp rfl)))
    .nil))))))
    (kc 0 rfl (kc 3 rfl (kc 4 rfl (kc 10 rfl (kc 18 rfl .nil))))) (fun a6 w6 e6 st6 => ?_)
   refine then_normal ?_
   refine cond_split (c := 18) st6 rfl (fun h2 => ?_) (fun h2 => ?_)
   ·
    have ht := h2
    refine wp_seq ?_
    refine region_seg st6 (sc rfl ((op_assign rfl opd_bool))
     .nil)
     (kc 0 rfl (kc 2 rfl (kc 3 rfl (kc 4 rfl (kc 10 rfl (kc 18 rfl .nil)))))) (fun a7 w7 e7 st7 => ?_)
    refine then_normal ?_
    refine wp_ret (blk_ret (thn_ret (thn_ret (blk_ret (thn_ret ?_)))))
    refine ret_dtM rfl (fun _ h => h) st7 (t := 2) rfl ?_
    unfold validName
    rw [all_fail hx (by simpa using ht)]
    rfl
   ·
    have hf := h2
    refine wp_skip (blk_normal (then_normal ?_))
    refine region_seg st6 (sc rfl ((op_move rfl (opd_tmp rfl)))
     (sc rfl ((op_arI rfl (by decide) (opd_tmp rfl) opd_int (by simp only [arI]; omega)))
     (sc rfl ((op_assign rfl (opd_tmp rfl)))
     .nil)))
     (kc 0 rfl (kc 3 rfl (kc 4 rfl (kc 10 rfl (kc 18 rfl .nil))))) (fun a8 w8 e8 st8 => ?_)
    refine then_normal ⟨k+1, ⟨st8.pick (kc 0 rfl (kc 3 rfl (kc 4 rfl .nil))), by omega, all_next hx hp (by simpa using hf)⟩, by omega⟩
  ·
   have hend := end_of h1
   refine wp_exit (thn_exit (thn_exit (exit_here ?_)))
   refine then_normal (wp_seq ?_)
   refine region_seg st5 (sc rfl ((op_move rfl (opd_tmp rfl)))
    (sc rfl ((op_lenL rfl (by kernel_rfl) (opd_tmp rfl)))
    (sc rfl ((op_cmpI rfl (by decide) (opd_tmp rfl) opd_int))
    (sc rfl ((op_assign rfl (opd_tmp rfl)))
    .nil))))
    (kc 0 rfl (kc 2 rfl (kc 3 rfl (kc 4 rfl (kc 10 rfl .nil))))) (fun a9 w9 e9 st9 => ?_)
   refine then_normal (wp_ret ?_)
   refine ret_dtM rfl (fun _ h => h) st9 (t := 2) rfl ?_
   unfold validName
   rw [all_end hend hp]
   rfl
theorem spec_validPackage_ok (s : Str) (hs : mid s) : Fn Tryz.prog 137 [dt s] (dt (validPackage s)) := by
 refine fn_of_wp (fn := Tryz.f137) Tryz.func137 rfl (of_decide_eq_true rfl) (fun M w0 a0 hm st0 => ?_)
 refine wp_seq ?_
 refine region_seg st0 (sc rfl ((op_assign rfl opd_bool))
  .nil)
  (kc 0 rfl (kc 2 rfl .nil)) (fun a1 w1 e1 st1 => ?_)
 refine then_normal (wp_seq ?_)
 refine region_seg st1 (sc rfl ((op_move rfl (opd_tmp rfl)))
  (sc rfl ((op_eqS rfl (opd_tmp rfl) (opd_str (by decide))))
  (sc rfl ((op_move rfl (opd_tmp rfl)))
  (.cons rfl (by decide) (.guarded rfl rfl (by decide) rfl dt_bv (fun hg => op_move rfl (opd_tmp rfl)))
  (.cons rfl (by decide) (.guarded rfl rfl (by decide) rfl dt_bv (fun hg => op_call (l := [.tmp 6]) rfl (by kernel_rfl) (.cons (opd_g hg rfl) .nil) (spec_validName_ok _ hs)))
  (sc rfl ((op_or rfl (opd_tmp rfl) (opd_tmp rfl)))
  (sc rfl ((op_assign rfl (opd_tmp rfl)))
  .nil)))))))
  (kc 0 rfl (kc 2 rfl .nil)) (fun a2 w2 e2 st2 => ?_)
 refine then_normal (wp_ret ?_)
 refine ret_dtM rfl (fun _ h => h) st2 (t := 2) rfl ?_
 rfl
end Go.Proofs.YtbnibckkfknpkaaGreatDoor
namespace Go.Proofs.YtbnibckkfknpkaaGreatDoor
open Go.RowKit
set_option maxRecDepth 10000
theorem spec_join_ok (l : List Str) (hl : lenSum l <= 1152921504606846976) : Fn Tryz.prog 103 [dt l] (dt (join l)) := by
 refine fn_of_wp (fn := Tryz.f103) Tryz.func103 rfl (of_decide_eq_true rfl) (fun M w0 a0 hm st0 => ?_)
 have hlen := st0.lenL (s := 0) rfl
 refine wp_seq ?_
 refine region_seg st0 (sc rfl ((op_assign rfl (opd_str (by decide))))
  .nil)
  (kc 0 rfl (kc 2 rfl .nil)) (fun a1 w1 e1 st1 => ?_)
 refine then_normal (wp_seq ?_)
 refine region_seg st1 (sc rfl ((op_assign rfl (opd_str (by decide))))
  .nil)
  (kc 0 rfl (kc 2 rfl (kc 3 rfl .nil))) (fun a2 w2 e2 st2 => ?_)
 refine then_normal (wp_seq (wp_seq ?_))
 refine region_seg st2 (sc rfl ((op_assign rfl opd_int))
  .nil)
  (kc 0 rfl (kc 2 rfl (kc 3 rfl (kc 4 rfl .nil)))) (fun a3 w3 e3 st3 => ?_)
 refine then_normal (wp_block ?_)
 refine loop_st (ι := Nat) (fun k a w => St (Frm.of w0) 22 M [(0, dt l), (3, dt (joinRun (l.take k)).1), (4, dt (k : Int))] a w /\ k <= l.length) (fun k => l.length - k) 0 ?_ ?_
 ·
  exact ⟨st3.pick (kc 0 rfl (kc 3 rfl (kc 4 rfl .nil))), Nat.zero_le _⟩
 ·
  rintro k a4 w4 ⟨st4, hk⟩
  refine wp_seq (wp_seq ?_)
  refine region_seg st4 (sc rfl ((op_move rfl (opd_tmp rfl)))
   (sc rfl ((op_move rfl (opd_tmp rfl)))
   (sc rfl ((op_lenL rfl (by kernel_rfl) (opd_tmp rfl)))
   (sc rfl ((op_cmpI rfl (by decide) (opd_tmp rfl) (opd_tmp rfl)))
   .nil))))
   (kc 0 rfl (kc 3 rfl (kc 4 rfl (kc 8 rfl .nil)))) (fun a5 w5 e5 st5 => ?_)
  refine then_normal ?_
  refine cond_split (c := 8) st5 rfl (fun h1 => ?_) (fun h1 => ?_)
  ·
   obtain ⟨x, hx⟩ := idx_of h1
   have hlt := lt_of_get hx
   have hroom := join_room hx
   refine wp_skip (then_normal (wp_seq (wp_block (wp_seq (wp_seq ?_)))))
   refine region_seg st5 (sc rfl ((op_move rfl (opd_tmp rfl)))
    (sc rfl ((op_cmpI rfl (by decide) (opd_tmp rfl) opd_int))
    .nil))
    (kc 0 rfl (kc 3 rfl (kc 4 rfl (kc 8 rfl (kc 12 rfl .nil))))) (fun a6 w6 e6 st6 => ?_)
   refine then_normal ?_
   refine cond_split (c := 12) st6 rfl (fun h2 => ?_) (fun h2 => ?_)
   ·
    have ht := h2
    refine region_seg st6 (sc rfl ((op_move rfl (opd_tmp rfl)))
     (sc rfl ((op_cat rfl (opd_tmp rfl) (opd_str (by decide)) (by first | (unfold maxLen; omega) | (simp only [List.length_singleton]; unfold maxLen; omega))))
     (sc rfl ((op_assign rfl (opd_tmp rfl)))
     .nil)))
     (kc 0 rfl (kc 3 rfl (kc 4 rfl (kc 8 rfl (kc 12 rfl .nil))))) (fun a7 w7 e7 st7 => ?_)
    refine then_normal ?_
    refine region_seg st7 (sc rfl ((op_move rfl (opd_tmp rfl)))
     (sc rfl ((op_move rfl (opd_tmp rfl)))
     (sc rfl ((op_move rfl (opd_tmp rfl)))
     (sc rfl ((op_indexE rfl (by kernel_rfl) (opd_tmp rfl) (opd_tmp rfl) rfl (by assumption)))
     (sc rfl ((op_load rfl (by kernel_rfl) (opd_tmp rfl)))
     (sc rfl ((op_cat rfl (opd_tmp rfl) (opd_tmp rfl) (by first | (unfold maxLen; omega) | (simp only [List.length_append, List.length_singleton]; unfold maxLen; omega))))
     (sc rfl ((op_assign rfl (opd_tmp rfl)))
     .nil)))))))
     (kc 0 rfl (kc 3 rfl (kc 4 rfl (kc 8 rfl (kc 12 rfl .nil))))) (fun a8 w8 e8 st8 => ?_)
    refine blk_normal (then_normal ?_)
    refine region_seg st8 (sc rfl ((op_move rfl (opd_tmp rfl)))
     (sc rfl ((op_arI rfl (by decide) (opd_tmp rfl) opd_int (by simp only [arI]; omega)))
     (sc rfl ((op_assign rfl (opd_tmp rfl)))
     .nil)))
     (kc 0 rfl (kc 3 rfl (kc 4 rfl (kc 8 rfl (kc 12 rfl .nil))))) (fun a9 w9 e9 st9 => ?_)
    refine then_normal ⟨k+1, ⟨?_, by omega⟩, by omega⟩
    first | rw [join_hit hx ht] | rw [join_miss hx hf]
    exact st9.pick (kc 0 rfl (kc 3 rfl (kc 4 rfl .nil)))
   ·
    have hf := h2
    refine wp_skip (then_normal ?_)
    refine region_seg st6 (sc rfl ((op_move rfl (opd_tmp rfl)))
     (sc rfl ((op_move rfl (opd_tmp rfl)))
     (sc rfl ((op_move rfl (opd_tmp rfl)))
     (sc rfl ((op_indexE rfl (by kernel_rfl) (opd_tmp rfl) (opd_tmp rfl) rfl (by assumption)))
     (sc rfl ((op_load rfl (by kernel_rfl) (opd_tmp rfl)))
     (sc rfl ((op_cat rfl (opd_tmp rfl) (opd_tmp rfl) (by first | (unfold maxLen; omega) | (simp only [List.length_append, List.length_singleton]; unfold maxLen; omega))))
     (sc rfl ((op_assign rfl (opd_tmp rfl)))
     .nil)))))))
     (kc 0 rfl (kc 3 rfl (kc 4 rfl (kc 8 rfl (kc 12 rfl .nil))))) (fun a10 w10 e10 st10 => ?_)
    refine blk_normal (then_normal ?_)
    refine region_seg st10 (sc rfl ((op_move rfl (opd_tmp rfl)))
     (sc rfl ((op_arI rfl (by decide) (opd_tmp rfl) opd_int (by simp only [arI]; omega)))
     (sc rfl ((op_assign rfl (opd_tmp rfl)))
     .nil)))
     (kc 0 rfl (kc 3 rfl (kc 4 rfl (kc 8 rfl (kc 12 rfl .nil))))) (fun a11 w11 e11 st11 => ?_)
    refine then_normal ⟨k+1, ⟨?_, by omega⟩, by omega⟩
    first | rw [join_hit hx ht] | rw [join_miss hx hf]
    exact st11.pick (kc 0 rfl (kc 3 rfl (kc 4 rfl .nil)))
  ·
   have hend := end_of h1
   refine wp_exit (thn_exit (thn_exit (exit_here ?_)))
   refine then_normal (wp_seq ?_)
   refine region_seg st5 (sc rfl ((op_move rfl (opd_tmp rfl)))
    (sc rfl ((op_assign rfl (opd_tmp rfl)))
    .nil))
    (kc 0 rfl (kc 2 rfl (kc 3 rfl (kc 4 rfl (kc 8 rfl .nil))))) (fun a12 w12 e12 st12 => ?_)
   refine then_normal (wp_ret ?_)
   refine ret_dtM rfl (fun _ h => h) st12 (t := 2) rfl ?_
   exact join_end hend
theorem spec_parent_ok (s : Str) (hs : mid s) : Fn Tryz.prog 64 [dt s] (dt (parent s)) := by
 refine fn_of_wp (fn := Tryz.f64) Tryz.func64 rfl (of_decide_eq_true rfl) (fun M w0 a0 hm st0 => ?_)
 have hlen : s.l.length <= 1099511627776 := hs
 have hne := split_ne s dot
 have hroom := split_room s dot
 have hlr := len_room (splitAt s dot)
 refine wp_seq ?_
 refine region_seg st0 (sc rfl ((op_assign rfl (opd_str (by decide))))
  .nil)
  (kc 0 rfl (kc 2 rfl .nil)) (fun a1 w1 e1 st1 => ?_)
 refine then_normal (wp_seq ?_)
 refine region_seg st1 (sc rfl ((op_move rfl (opd_tmp rfl)))
  (sc rfl ((op_call (l := [.tmp 4, .const (.int .u8 46)]) rfl (by kernel_rfl) (.cons (opd_tmp rfl) (.cons (opd_u8 (by decide)) .nil)) (spec_splitAt_ok _ dot (by assumption))))
  (sc rfl ((op_assign rfl (opd_tmp rfl)))
  .nil)))
  (kc 0 rfl (kc 2 rfl (kc 3 rfl .nil))) (fun a2 w2 e2 st2 => ?_)
 refine then_normal (wp_seq ?_)
 refine region_seg st2 (sc rfl ((op_move rfl (opd_tmp rfl)))
  (sc rfl ((op_move rfl (opd_tmp rfl)))
  (sc rfl ((op_lenL rfl (by kernel_rfl) (opd_tmp rfl)))
  (sc rfl ((op_arI rfl (by decide) (opd_tmp rfl) opd_int (by simp only [arI]; omega)))
  (sc rfl ((op_sliceHe rfl (by kernel_rfl) (opd_tmp rfl) (opd_tmp rfl) (j := (splitAt s dot).length - 1) (by simp only [arI]; omega) (by omega)))
  (sc rfl ((op_call (l := [.tmp 10]) rfl (by kernel_rfl) (.cons (opd_tmp rfl) .nil) (spec_join_ok _ (by have := lenSum_take_le (splitAt s dot) ((splitAt s dot).length - 1); omega))))
  (sc rfl ((op_assign rfl (opd_tmp rfl)))
  .nil)))))))
  (kc 0 rfl (kc 2 rfl (kc 3 rfl .nil))) (fun a3 w3 e3 st3 => ?_)
 refine then_normal (wp_ret ?_)
 refine ret_dtM rfl (fun _ h => h) st3 (t := 2) rfl ?_
 rfl
theorem spec_child_ok (p s : Str) (hc : p.l.length + s.l.length <= 1152921504606846976) : Fn Tryz.prog 139 [dt p, dt s] (dt (child p s)) := by
 refine fn_of_wp (fn := Tryz.f139) Tryz.func139 rfl (of_decide_eq_true rfl) (fun M w0 a0 hm st0 => ?_)
 refine wp_seq ?_
 refine region_seg st0 (sc rfl ((op_assign rfl (opd_str (by decide))))
  .nil)
  (kc 0 rfl (kc 1 rfl (kc 4 rfl .nil))) (fun a1 w1 e1 st1 => ?_)
 refine then_normal (wp_seq (wp_seq ?_))
 refine region_seg st1 (sc rfl ((op_move rfl (opd_tmp rfl)))
  (sc rfl ((op_eqS rfl (opd_tmp rfl) (opd_str (by decide))))
  .nil))
  (kc 0 rfl (kc 1 rfl (kc 4 rfl (kc 6 rfl .nil)))) (fun a2 w2 e2 st2 => ?_)
 refine then_normal ?_
 refine cond_split (c := 6) st2 rfl (fun h1 => ?_) (fun h1 => ?_)
 ·
  have ht := h1
  refine wp_seq ?_
  refine region_seg st2 (sc rfl ((op_move rfl (opd_tmp rfl)))
   (sc rfl ((op_assign rfl (opd_tmp rfl)))
   .nil))
   (kc 0 rfl (kc 1 rfl (kc 4 rfl (kc 6 rfl .nil)))) (fun a3 w3 e3 st3 => ?_)
  refine then_normal ?_
  refine wp_ret (thn_ret ?_)
  refine ret_dtM rfl (fun _ h => h) st3 (t := 4) rfl ?_
  exact (if_pos (of_decide_eq_true ht)).symm
 ·
  have hf := h1
  refine wp_skip (then_normal (wp_seq ?_))
  refine region_seg st2 (sc rfl ((op_move rfl (opd_tmp rfl)))
   (sc rfl ((op_cat rfl (opd_tmp rfl) (opd_str (by decide)) (by first | (unfold maxLen; omega) | (simp only [List.length_singleton]; unfold maxLen; omega))))
   (sc rfl ((op_move rfl (opd_tmp rfl)))
   (sc rfl ((op_cat rfl (opd_tmp rfl) (opd_tmp rfl) (by first | (unfold maxLen; omega) | (simp only [List.length_append, List.length_singleton]; unfold maxLen; omega))))
   (sc rfl ((op_assign rfl (opd_tmp rfl)))
   .nil)))))
   (kc 0 rfl (kc 1 rfl (kc 4 rfl (kc 6 rfl .nil)))) (fun a4 w4 e4 st4 => ?_)
  refine then_normal (wp_ret ?_)
  refine ret_dtM rfl (fun _ h => h) st4 (t := 4) rfl ?_
  exact (if_neg (of_decide_eq_false hf)).symm
theorem spec_above_ok (s : Str) (hs : mid s) : Fn Tryz.prog 55 [dt s] (dt (above s)) := by
 refine fn_of_wp (fn := Tryz.f55) Tryz.func55 rfl (of_decide_eq_true rfl) (fun M w0 a0 hm st0 => ?_)
 have hroom := split_room s dot
 have hlen := len_room (splitAt s dot)
 have hms : s.l.length <= 1099511627776 := hs
 refine wp_seq ?_
 refine region_seg st0 (sc rfl ((op_assign rfl (opd_nil (α := Str))))
  .nil)
  (kc 0 rfl (kc 2 rfl .nil)) (fun a1 w1 e1 st1 => ?_)
 refine then_normal (wp_seq ?_)
 refine region_seg st1 (sc rfl ((op_move rfl (opd_tmp rfl)))
  (sc rfl ((op_call (l := [.tmp 6, .const (.int .u8 46)]) rfl (by kernel_rfl) (.cons (opd_tmp rfl) (.cons (opd_u8 (by decide)) .nil)) (spec_splitAt_ok _ dot (by assumption))))
  (sc rfl ((op_assign rfl (opd_tmp rfl)))
  .nil)))
  (kc 0 rfl (kc 2 rfl (kc 3 rfl .nil))) (fun a2 w2 e2 st2 => ?_)
 refine then_normal (wp_seq ?_)
 refine region_seg st2 (sc rfl ((op_lit0 (α := Str) (e := 9) rfl (by kernel_rfl)))
  (sc rfl ((op_assign rfl (opd_tmp rfl)))
  .nil))
  (kc 0 rfl (kc 2 rfl (kc 3 rfl (kc 4 rfl .nil)))) (fun a3 w3 e3 st3 => ?_)
 refine then_normal (wp_seq (wp_seq ?_))
 refine region_seg st3 (sc rfl ((op_assign rfl opd_int))
  .nil)
  (kc 0 rfl (kc 2 rfl (kc 3 rfl (kc 4 rfl (kc 5 rfl .nil))))) (fun a4 w4 e4 st4 => ?_)
 refine then_normal (wp_block ?_)
 refine loop_st (ι := Nat) (fun k a w => ∃ g, TipOK (Frm.of w0) M g /\ St (Frm.of w0) 23 (insO g M) [(0, dt s), (3, dt (splitAt s dot)), (4, dtip g 9 (aboveRun (splitAt s dot) k)), (5, dt ((k + 1 : Nat) : Int))] a w /\ k <= (splitAt s dot).length) (fun k => (splitAt s dot).length - k) 0 ?_ ?_
 ·
  exact ⟨none, TipOK.none_, st4.ins0.pick (kc 0 rfl (kc 3 rfl (kc 4 rfl (kc 5 rfl .nil)))), Nat.zero_le _⟩
 ·
  rintro k a5 w5 ⟨g5, hg5, st5, hk⟩
  refine wp_seq (wp_seq ?_)
  refine region_seg st5 (sc rfl ((op_move rfl (opd_tmp rfl)))
   (sc rfl ((op_move rfl (opd_tmp rfl)))
   (sc rfl ((op_lenL rfl (by kernel_rfl) (opd_tmp rfl)))
   (sc rfl ((op_cmpI rfl (by decide) (opd_tmp rfl) (opd_tmp rfl)))
   .nil))))
   (kc 0 rfl (kc 3 rfl (kc 4 rfl (kc 5 rfl (kc 12 rfl .nil))))) (fun a6 w6 e6 st6 => ?_)
  refine then_normal ?_
  refine cond_split (c := 12) st6 rfl (fun h1 => ?_) (fun h1 => ?_)
  ·
   have hlt : k + 1 <= (splitAt s dot).length := by have := of_decide_eq_true h1; omega
   have hal := aboveRun_len (splitAt s dot) k
   have htk := lenSum_take_le (splitAt s dot) (k + 1)
   refine wp_skip (then_normal (wp_seq (wp_block (wp_region_list ?_))))
   refine seg_n 6 st6 (sc rfl ((op_move rfl (opd_tmp rfl)))
    (sc rfl ((op_move rfl (opd_tmp rfl)))
    (sc rfl ((op_move rfl (opd_tmp rfl)))
    (sc rfl ((op_sliceHe rfl (by kernel_rfl) (opd_tmp rfl) (opd_tmp rfl) rfl (by omega)))
    (sc rfl ((op_call (l := [.tmp 18]) rfl (by kernel_rfl) (.cons (opd_tmp rfl) .nil) (spec_join_ok _ (by omega))))
    (sc rfl ((op_lit (opds := [.tmp 19]) rfl (by kernel_rfl) (by kernel_rfl) rfl rfl (by decide) (.cons (opd_tmp rfl) .nil)))
    .nil))))))
    (kc 0 rfl (kc 3 rfl (kc 4 rfl (kc 5 rfl (kc 12 rfl (kc 15 rfl (kc 20 rfl .nil))))))) (fun a7 w7 e7 st7 => ?_)
   refine wpl_append (bytes := 16) (st7) rfl rfl rfl (by decide) (by kernel_rfl) rfl rfl row_dt (len1 (by omega)) (len1b (by omega)) (.cons (s := 0) rfl (fun _ _ h => h) (.cons (s := 3) rfl (fun _ _ h => h) (.cons (s := 5) rfl (fun _ _ h => h) (.cons (s := 12) rfl (fun _ _ h => h) .nil)))) (hg5) (fun g8 a8 w8 hg8 st8 => ?_)
   refine seg_n 1 st8 (sc rfl ((op_assign rfl (opd_tmp rfl)))
    .nil)
    (kc 0 rfl (kc 3 rfl (kc 4 rfl (kc 5 rfl (kc 12 rfl .nil))))) (fun a9 w9 e9 st9 => ?_)
   refine wpList_nil (blk_normal (then_normal ?_))
   refine region_seg st9 (sc rfl ((op_move rfl (opd_tmp rfl)))
    (sc rfl ((op_arI rfl (by decide) (opd_tmp rfl) opd_int (by simp only [arI]; omega)))
    (sc rfl ((op_assign rfl (opd_tmp rfl)))
    .nil)))
    (kc 0 rfl (kc 3 rfl (kc 4 rfl (kc 5 rfl (kc 12 rfl .nil))))) (fun a10 w10 e10 st10 => ?_)
   refine then_normal ⟨k+1, ⟨g8, hg8, ?_, by omega⟩, by omega⟩
   rw [aboveRun_next]
   exact st10.pick (kc 0 rfl (kc 3 rfl (kc 4 rfl (kc 5 rfl .nil))))
  ·
   have hend : (splitAt s dot).length <= k := by have := of_decide_eq_false h1; omega
   refine wp_exit (thn_exit (thn_exit (exit_here ?_)))
   refine then_normal (wp_seq ?_)
   refine region_seg st6 (sc rfl ((op_move rfl (opd_tmp rfl)))
    (sc rfl ((op_assign rfl (opd_tmp rfl)))
    .nil))
    (kc 0 rfl (kc 2 rfl (kc 3 rfl (kc 4 rfl (kc 5 rfl (kc 12 rfl .nil)))))) (fun a11 w11 e11 st11 => ?_)
   refine then_normal (wp_ret ?_)
   refine ret_tip rfl (hg5) (fun _ h => h) st11 (t := 2) rfl ?_
   rw [above, Nat.le_antisymm hk hend]
theorem spec_under_ok (s p : Str) (hp : p.l.length <= 1152921504606846976) : Fn Tryz.prog 162 [dt s, dt p] (dt (under s p)) := by
 refine fn_of_wp (fn := Tryz.f162) Tryz.func162 rfl (of_decide_eq_true rfl) (fun M w0 a0 hm st0 => ?_)
 refine wp_seq ?_
 refine region_seg st0 (sc rfl ((op_assign rfl opd_bool))
  .nil)
  (kc 0 rfl (kc 1 rfl (kc 4 rfl .nil))) (fun a1 w1 e1 st1 => ?_)
 refine then_normal (wp_seq ?_)
 refine region_seg st1 (sc rfl ((op_move rfl (opd_tmp rfl)))
  (sc rfl ((op_eqS rfl (opd_tmp rfl) (opd_str (by decide))))
  (sc rfl ((op_move rfl (opd_tmp rfl)))
  (.cons rfl (by decide) (.guarded rfl rfl (by decide) rfl dt_bv (fun hg => op_move rfl (opd_tmp rfl)))
  (.cons rfl (by decide) (.guarded rfl rfl (by decide) rfl dt_bv (fun hg => op_move rfl (opd_tmp rfl)))
  (.cons rfl (by decide) (.guarded rfl rfl (by decide) rfl dt_bv (fun hg => op_eqS rfl (opd_g hg rfl) (opd_g hg rfl)))
  (sc rfl ((op_or rfl (opd_tmp rfl) (opd_tmp rfl)))
  (sc rfl ((op_move rfl (opd_tmp rfl)))
  (.cons rfl (by decide) (.guarded rfl rfl (by decide) rfl dt_bv (fun hg => op_move rfl (opd_tmp rfl)))
  (.cons rfl (by decide) (.guarded rfl rfl (by decide) rfl dt_bv (fun hg => op_lenS rfl (by kernel_rfl) (opd_g hg rfl)))
  (.cons rfl (by decide) (.guarded rfl rfl (by decide) rfl dt_bv (fun hg => op_move rfl (opd_tmp rfl)))
  (.cons rfl (by decide) (.guarded rfl rfl (by decide) rfl dt_bv (fun hg => op_lenS rfl (by kernel_rfl) (opd_g hg rfl)))
  (.cons rfl (by decide) (.guarded rfl rfl (by decide) rfl dt_bv (fun hg => op_cmpI rfl (by decide) (opd_g hg rfl) (opd_g hg rfl)))
  (.cons rfl (by decide) (.guarded rfl rfl (by decide) rfl dt_bv (fun hg => op_move rfl (opd_g hg rfl)))
  (.cons rfl (by decide) (.guarded2 rfl rfl (by decide) rfl dt_bv (fun hg => op_move rfl (opd_tmp rfl)))
  (.cons rfl (by decide) (.guarded2 rfl rfl (by decide) rfl dt_bv (fun hg => op_move rfl (opd_tmp rfl)))
  (.cons rfl (by decide) (.guarded2 rfl rfl (by decide) rfl dt_bv (fun hg => op_lenS rfl (by kernel_rfl) (opd_g hg rfl)))
  (.cons rfl (by decide) (.guarded2 rfl rfl (by decide) rfl dt_bv (fun hg => op_arI rfl (by decide) (opd_g hg rfl) opd_int (by simp only [arI]; omega)))
  (.cons rfl (by decide) (.guarded2 rfl rfl (by decide) rfl dt_bv (fun hg => op_cutH rfl (by kernel_rfl) (opd_g hg rfl) (opd_g hg rfl) (by simp only [arI]; omega) (by simp only [arI]; have := of_decide_eq_true (and_r hg); omega)))
  (.cons rfl (by decide) (.guarded2 rfl rfl (by decide) rfl dt_bv (fun hg => op_move rfl (opd_tmp rfl)))
  (.cons rfl (by decide) (.guarded2 rfl rfl (by decide) rfl dt_bv (fun hg => op_cat rfl (opd_g hg rfl) (opd_str (by decide)) (by first | (unfold maxLen; omega) | (simp only [List.length_singleton]; unfold maxLen; omega))))
  (.cons rfl (by decide) (.guarded2 rfl rfl (by decide) rfl dt_bv (fun hg => op_eqS rfl (opd_g hg rfl) (opd_g hg rfl)))
  (.cons rfl (by decide) (.guarded rfl rfl (by decide) rfl dt_bv (fun hg => op_and rfl (opd_g hg rfl) (opd_gg hg rfl)))
  (sc rfl ((op_or rfl (opd_tmp rfl) (opd_tmp rfl)))
  (sc rfl ((op_assign rfl (opd_tmp rfl)))
  .nil)))))))))))))))))))))))))
  (kc 0 rfl (kc 1 rfl (kc 4 rfl .nil))) (fun a2 w2 e2 st2 => ?_)
 refine then_normal (wp_ret ?_)
 refine ret_dtM rfl (fun _ h => h) st2 (t := 4) rfl ?_
 exact under_of
theorem spec_moduleName_ok (f : File) (hf : smFile f) : Fn Tryz.prog 110 [dt f] (dt (moduleName f)) := by
 refine fn_of_wp (fn := Tryz.f110) Tryz.func110 rfl (of_decide_eq_true rfl) (fun M w0 a0 hm st0 => ?_)
 refine wp_seq ?_
 refine region_seg st0 (sc rfl ((op_box rfl (opd_tmp rfl)))
  (sc rfl ((op_assign rfl (opd_str (by decide))))
  .nil))
  (kc 0 rfl (kc 1 rfl (kc 2 rfl .nil))) (fun a1 w1 e1 st1 => ?_)
 refine then_normal (wp_seq (wp_seq ?_))
 refine region_seg st1 (sc rfl ((op_field File.fld3 rfl (by kernel_rfl) (opd_tmp rfl)))
  (sc rfl ((op_load rfl (by kernel_rfl) (opd_tmp rfl)))
  .nil))
  (kc 0 rfl (kc 1 rfl (kc 2 rfl (kc 4 rfl .nil)))) (fun a2 w2 e2 st2 => ?_)
 refine then_normal ?_
 refine cond_split (c := 4) st2 rfl (fun h1 => ?_) (fun h1 => ?_)
 ·
  have ht := h1
  refine wp_seq ?_
  refine region_seg st2 (sc rfl ((op_field File.fld1 rfl (by kernel_rfl) (opd_tmp rfl)))
   (sc rfl ((op_load rfl (by kernel_rfl) (opd_tmp rfl)))
   (sc rfl ((op_assign rfl (opd_tmp rfl)))
   .nil)))
   (kc 0 rfl (kc 1 rfl (kc 2 rfl (kc 4 rfl .nil)))) (fun a3 w3 e3 st3 => ?_)
  refine then_normal ?_
  refine wp_ret (thn_ret ?_)
  refine ret_dtM rfl (fun _ h => h) st3 (t := 2) rfl ?_
  rw [moduleName, if_pos ht]
 ·
  have hff := h1
  refine wp_skip (then_normal (wp_seq ?_))
  refine region_seg st2 (sc rfl ((op_field File.fld1 rfl (by kernel_rfl) (opd_tmp rfl)))
   (sc rfl ((op_load rfl (by kernel_rfl) (opd_tmp rfl)))
   (sc rfl ((op_field File.fld2 rfl (by kernel_rfl) (opd_tmp rfl)))
   (sc rfl ((op_load rfl (by kernel_rfl) (opd_tmp rfl)))
   (sc rfl ((op_call (l := [.tmp 8, .tmp 10]) rfl (by kernel_rfl) (.cons (opd_tmp rfl) (.cons (opd_tmp rfl) .nil)) (spec_child_ok _ _ (by have := hf.1; have := hf.2.1; omega))))
   (sc rfl ((op_assign rfl (opd_tmp rfl)))
   .nil))))))
   (kc 0 rfl (kc 1 rfl (kc 2 rfl (kc 4 rfl .nil)))) (fun a4 w4 e4 st4 => ?_)
  refine then_normal (wp_ret ?_)
  refine ret_dtM rfl (fun _ h => h) st4 (t := 2) rfl ?_
  rw [moduleName, if_neg (by simp [hff])]
end Go.Proofs.YtbnibckkfknpkaaGreatDoor
namespace Go.Proofs.YtbnibckkfknpkaaGreatDoor
open Go.RowKit
set_option maxRecDepth 10000
theorem spec_validStmt_ok (s : Stmt) (hs : smStmt s) : Fn Tryz.prog 161 [dt s] (dt (validStmt s)) := by
 refine fn_of_wp (fn := Tryz.f161) Tryz.func161 rfl (of_decide_eq_true rfl) (fun M w0 a0 hm st0 => ?_)
 refine wp_seq ?_
 refine region_seg st0 (sc rfl ((op_box rfl (opd_tmp rfl)))
  (sc rfl ((op_assign rfl opd_bool))
  .nil))
  (kc 0 rfl (kc 1 rfl (kc 2 rfl .nil))) (fun a1 w1 e1 st1 => ?_)
 refine then_normal (wp_seq (wp_seq ?_))
 refine region_seg st1 (sc rfl ((op_field Stmt.fld0 rfl (by kernel_rfl) (opd_tmp rfl)))
  (sc rfl ((op_load rfl (by kernel_rfl) (opd_tmp rfl)))
  .nil))
  (kc 0 rfl (kc 1 rfl (kc 2 rfl (kc 4 rfl .nil)))) (fun a2 w2 e2 st2 => ?_)
 refine then_normal (wp_block (wp_seq ?_))
 refine region_seg st2 (sc rfl ((op_cmpI rfl (by decide) (opd_tmp rfl) opd_int))
  (sc rfl ((op_assign rfl (opd_tmp rfl)))
  .nil))
  (kc 0 rfl (kc 1 rfl (kc 2 rfl (kc 4 rfl (kc 5 rfl .nil))))) (fun a3 w3 e3 st3 => ?_)
 refine then_normal ?_
 refine cond_split (c := 5) st3 rfl (fun h1 => ?_) (fun h1 => ?_)
 ·
  have k0 := h1
  refine wp_seq ?_
  refine region_seg st3 (sc rfl ((op_field Stmt.fld1 rfl (by kernel_rfl) (opd_tmp rfl)))
   (sc rfl ((op_load rfl (by kernel_rfl) (opd_tmp rfl)))
   (sc rfl ((op_call (l := [.tmp 8]) rfl (by kernel_rfl) (.cons (opd_tmp rfl) .nil) (spec_validName_ok _ (by have := hs.1; unfold mid; omega))))
   (sc rfl ((op_move rfl (opd_tmp rfl)))
   (.cons rfl (by decide) (.guarded rfl rfl (by decide) rfl dt_bv (fun hg => op_field Stmt.fld2 rfl (by kernel_rfl) (opd_tmp rfl)))
   (.cons rfl (by decide) (.guarded rfl rfl (by decide) rfl dt_bv (fun hg => op_load rfl (by kernel_rfl) (opd_g hg rfl)))
   (.cons rfl (by decide) (.guarded rfl rfl (by decide) rfl dt_bv (fun hg => op_cmpI rfl (by decide) (opd_g hg rfl) opd_int))
   (sc rfl ((op_and rfl (opd_tmp rfl) (opd_tmp rfl)))
   (sc rfl ((op_move rfl (opd_tmp rfl)))
   (.cons rfl (by decide) (.guarded rfl rfl (by decide) rfl dt_bv (fun hg => op_field Stmt.fld3 rfl (by kernel_rfl) (opd_tmp rfl)))
   (.cons rfl (by decide) (.guarded rfl rfl (by decide) rfl dt_bv (fun hg => op_load rfl (by kernel_rfl) (opd_g hg rfl)))
   (.cons rfl (by decide) (.guarded rfl rfl (by decide) rfl dt_bv (fun hg => op_eqS rfl (opd_g hg rfl) (opd_str (by decide))))
   (sc rfl ((op_and rfl (opd_tmp rfl) (opd_tmp rfl)))
   (sc rfl ((op_move rfl (opd_tmp rfl)))
   (.cons rfl (by decide) (.guarded rfl rfl (by decide) rfl dt_bv (fun hg => op_field Stmt.fld4 rfl (by kernel_rfl) (opd_tmp rfl)))
   (.cons rfl (by decide) (.guarded rfl rfl (by decide) rfl dt_bv (fun hg => op_load rfl (by kernel_rfl) (opd_g hg rfl)))
   (.cons rfl (by decide) (.guarded rfl rfl (by decide) rfl dt_bv (fun hg => op_cmpI rfl (by decide) (opd_g hg rfl) opd_int))
   (sc rfl ((op_and rfl (opd_tmp rfl) (opd_tmp rfl)))
   (sc rfl ((op_assign rfl (opd_tmp rfl)))
   .nil)))))))))))))))))))
   (kc 0 rfl (kc 1 rfl (kc 2 rfl (kc 4 rfl (kc 5 rfl .nil))))) (fun a4 w4 e4 st4 => ?_)
  refine then_normal ?_
  refine wp_ret (blk_ret (thn_ret ?_))
  refine ret_dtM rfl (fun _ h => h) st4 (t := 2) rfl ?_
  rw [validStmt, if_pos k0]
 ·
  have k0 := h1
  refine wp_seq ?_
  refine region_seg st3 (sc rfl ((op_cmpI rfl (by decide) (opd_tmp rfl) opd_int))
   (sc rfl ((op_assign rfl (opd_tmp rfl)))
   .nil))
   (kc 0 rfl (kc 1 rfl (kc 2 rfl (kc 4 rfl (kc 5 rfl (kc 25 rfl .nil)))))) (fun a5 w5 e5 st5 => ?_)
  refine then_normal ?_
  refine cond_split (c := 25) st5 rfl (fun h2 => ?_) (fun h2 => ?_)
  ·
   have k1 := h2
   refine wp_seq ?_
   refine region_seg st5 (sc rfl ((op_field Stmt.fld1 rfl (by kernel_rfl) (opd_tmp rfl)))
    (sc rfl ((op_load rfl (by kernel_rfl) (opd_tmp rfl)))
    (sc rfl ((op_call (l := [.tmp 28]) rfl (by kernel_rfl) (.cons (opd_tmp rfl) .nil) (spec_validPackage_ok _ (by have := hs.1; unfold mid; omega))))
    (sc rfl ((op_move rfl (opd_tmp rfl)))
    (.cons rfl (by decide) (.guarded rfl rfl (by decide) rfl dt_bv (fun hg => op_field Stmt.fld2 rfl (by kernel_rfl) (opd_tmp rfl)))
    (.cons rfl (by decide) (.guarded rfl rfl (by decide) rfl dt_bv (fun hg => op_load rfl (by kernel_rfl) (opd_g hg rfl)))
    (.cons rfl (by decide) (.guarded rfl rfl (by decide) rfl dt_bv (fun hg => op_call (l := [.tmp 32, .const (.int .i64 0), .const (.int .i64 3)]) rfl (by kernel_rfl) (.cons (opd_g hg rfl) (.cons opd_int (.cons opd_int .nil))) (spec_inRange_ok _ _ _)))
    (sc rfl ((op_and rfl (opd_tmp rfl) (opd_tmp rfl)))
    (sc rfl ((op_move rfl (opd_tmp rfl)))
    (.cons rfl (by decide) (.guarded rfl rfl (by decide) rfl dt_bv (fun hg => op_field Stmt.fld1 rfl (by kernel_rfl) (opd_tmp rfl)))
    (.cons rfl (by decide) (.guarded rfl rfl (by decide) rfl dt_bv (fun hg => op_load rfl (by kernel_rfl) (opd_g hg rfl)))
    (.cons rfl (by decide) (.guarded rfl rfl (by decide) rfl dt_bv (fun hg => op_neS rfl (opd_g hg rfl) (opd_str (by decide))))
    (.cons rfl (by decide) (.guarded rfl rfl (by decide) rfl dt_bv (fun hg => op_move rfl (opd_g hg rfl)))
    (.cons rfl (by decide) (.guarded2 rfl rfl (by decide) rfl dt_bv (fun hg => op_field Stmt.fld2 rfl (by kernel_rfl) (opd_tmp rfl)))
    (.cons rfl (by decide) (.guarded2 rfl rfl (by decide) rfl dt_bv (fun hg => op_load rfl (by kernel_rfl) (opd_g hg rfl)))
    (.cons rfl (by decide) (.guarded2 rfl rfl (by decide) rfl dt_bv (fun hg => op_cmpI rfl (by decide) (opd_g hg rfl) opd_int))
    (.cons rfl (by decide) (.guarded rfl rfl (by decide) rfl dt_bv (fun hg => op_or rfl (opd_g hg rfl) (opd_gg hg rfl)))
    (sc rfl ((op_and rfl (opd_tmp rfl) (opd_tmp rfl)))
    (sc rfl ((op_move rfl (opd_tmp rfl)))
    (.cons rfl (by decide) (.guarded rfl rfl (by decide) rfl dt_bv (fun hg => op_field Stmt.fld3 rfl (by kernel_rfl) (opd_tmp rfl)))
    (.cons rfl (by decide) (.guarded rfl rfl (by decide) rfl dt_bv (fun hg => op_load rfl (by kernel_rfl) (opd_g hg rfl)))
    (.cons rfl (by decide) (.guarded rfl rfl (by decide) rfl dt_bv (fun hg => op_call (l := [.tmp 47]) rfl (by kernel_rfl) (.cons (opd_g hg rfl) .nil) (spec_validPart_ok _)))
    (sc rfl ((op_and rfl (opd_tmp rfl) (opd_tmp rfl)))
    (sc rfl ((op_move rfl (opd_tmp rfl)))
    (.cons rfl (by decide) (.guarded rfl rfl (by decide) rfl dt_bv (fun hg => op_field Stmt.fld4 rfl (by kernel_rfl) (opd_tmp rfl)))
    (.cons rfl (by decide) (.guarded rfl rfl (by decide) rfl dt_bv (fun hg => op_load rfl (by kernel_rfl) (opd_g hg rfl)))
    (.cons rfl (by decide) (.guarded rfl rfl (by decide) rfl dt_bv (fun hg => op_cmpI rfl (by decide) (opd_g hg rfl) opd_int))
    (sc rfl ((op_and rfl (opd_tmp rfl) (opd_tmp rfl)))
    (sc rfl ((op_assign rfl (opd_tmp rfl)))
    .nil)))))))))))))))))))))))))))))
    (kc 0 rfl (kc 1 rfl (kc 2 rfl (kc 4 rfl (kc 5 rfl (kc 25 rfl .nil)))))) (fun a6 w6 e6 st6 => ?_)
   refine then_normal ?_
   refine wp_ret (blk_ret (thn_ret ?_))
   refine ret_dtM rfl (fun _ h => h) st6 (t := 2) rfl ?_
   rw [validStmt, if_neg (by rw [k0]; decide), if_pos k1]
  ·
   have k1 := h2
   refine wp_seq ?_
   refine region_seg st5 (sc rfl ((op_cmpI rfl (by decide) (opd_tmp rfl) opd_int))
    (sc rfl ((op_assign rfl (opd_tmp rfl)))
    .nil))
    (kc 0 rfl (kc 1 rfl (kc 2 rfl (kc 4 rfl (kc 5 rfl (kc 25 rfl (kc 55 rfl .nil))))))) (fun a7 w7 e7 st7 => ?_)
   refine then_normal ?_
   refine cond_split (c := 55) st7 rfl (fun h3 => ?_) (fun h3 => ?_)
   ·
    have k2 := h3
    refine wp_seq ?_
    refine region_seg st7 (sc rfl ((op_field Stmt.fld1 rfl (by kernel_rfl) (opd_tmp rfl)))
     (sc rfl ((op_load rfl (by kernel_rfl) (opd_tmp rfl)))
     (sc rfl ((op_call (l := [.tmp 58]) rfl (by kernel_rfl) (.cons (opd_tmp rfl) .nil) (spec_validName_ok _ (by have := hs.1; unfold mid; omega))))
     (sc rfl ((op_move rfl (opd_tmp rfl)))
     (.cons rfl (by decide) (.guarded rfl rfl (by decide) rfl dt_bv (fun hg => op_field Stmt.fld2 rfl (by kernel_rfl) (opd_tmp rfl)))
     (.cons rfl (by decide) (.guarded rfl rfl (by decide) rfl dt_bv (fun hg => op_load rfl (by kernel_rfl) (opd_g hg rfl)))
     (.cons rfl (by decide) (.guarded rfl rfl (by decide) rfl dt_bv (fun hg => op_cmpI rfl (by decide) (opd_g hg rfl) opd_int))
     (sc rfl ((op_and rfl (opd_tmp rfl) (opd_tmp rfl)))
     (sc rfl ((op_move rfl (opd_tmp rfl)))
     (.cons rfl (by decide) (.guarded rfl rfl (by decide) rfl dt_bv (fun hg => op_field Stmt.fld3 rfl (by kernel_rfl) (opd_tmp rfl)))
     (.cons rfl (by decide) (.guarded rfl rfl (by decide) rfl dt_bv (fun hg => op_load rfl (by kernel_rfl) (opd_g hg rfl)))
     (.cons rfl (by decide) (.guarded rfl rfl (by decide) rfl dt_bv (fun hg => op_eqS rfl (opd_g hg rfl) (opd_str (by decide))))
     (sc rfl ((op_and rfl (opd_tmp rfl) (opd_tmp rfl)))
     (sc rfl ((op_move rfl (opd_tmp rfl)))
     (.cons rfl (by decide) (.guarded rfl rfl (by decide) rfl dt_bv (fun hg => op_field Stmt.fld4 rfl (by kernel_rfl) (opd_tmp rfl)))
     (.cons rfl (by decide) (.guarded rfl rfl (by decide) rfl dt_bv (fun hg => op_load rfl (by kernel_rfl) (opd_g hg rfl)))
     (.cons rfl (by decide) (.guarded rfl rfl (by decide) rfl dt_bv (fun hg => op_cmpI rfl (by decide) (opd_g hg rfl) opd_int))
     (sc rfl ((op_and rfl (opd_tmp rfl) (opd_tmp rfl)))
     (sc rfl ((op_assign rfl (opd_tmp rfl)))
     .nil)))))))))))))))))))
     (kc 0 rfl (kc 1 rfl (kc 2 rfl (kc 4 rfl (kc 5 rfl (kc 25 rfl (kc 55 rfl .nil))))))) (fun a8 w8 e8 st8 => ?_)
    refine then_normal ?_
    refine wp_ret (blk_ret (thn_ret ?_))
    refine ret_dtM rfl (fun _ h => h) st8 (t := 2) rfl ?_
    rw [validStmt, if_neg (by rw [k0]; decide), if_neg (by rw [k1]; decide), if_pos k2]
   ·
    have k2 := h3
    refine wp_seq ?_
    refine region_seg st7 (sc rfl ((op_cmpI rfl (by decide) (opd_tmp rfl) opd_int))
     (sc rfl ((op_assign rfl (opd_tmp rfl)))
     .nil))
     (kc 0 rfl (kc 1 rfl (kc 2 rfl (kc 4 rfl (kc 5 rfl (kc 25 rfl (kc 55 rfl (kc 75 rfl .nil)))))))) (fun a9 w9 e9 st9 => ?_)
    refine then_normal ?_
    refine cond_split (c := 75) st9 rfl (fun h4 => ?_) (fun h4 => ?_)
    ·
     have k3 := h4
     refine wp_seq ?_
     refine region_seg st9 (sc rfl ((op_field Stmt.fld1 rfl (by kernel_rfl) (opd_tmp rfl)))
      (sc rfl ((op_load rfl (by kernel_rfl) (opd_tmp rfl)))
      (sc rfl ((op_eqS rfl (opd_tmp rfl) (opd_str (by decide))))
      (sc rfl ((op_move rfl (opd_tmp rfl)))
      (.cons rfl (by decide) (.guarded rfl rfl (by decide) rfl dt_bv (fun hg => op_field Stmt.fld2 rfl (by kernel_rfl) (opd_tmp rfl)))
      (.cons rfl (by decide) (.guarded rfl rfl (by decide) rfl dt_bv (fun hg => op_load rfl (by kernel_rfl) (opd_g hg rfl)))
      (.cons rfl (by decide) (.guarded rfl rfl (by decide) rfl dt_bv (fun hg => op_cmpI rfl (by decide) (opd_g hg rfl) opd_int))
      (sc rfl ((op_and rfl (opd_tmp rfl) (opd_tmp rfl)))
      (sc rfl ((op_move rfl (opd_tmp rfl)))
      (.cons rfl (by decide) (.guarded rfl rfl (by decide) rfl dt_bv (fun hg => op_field Stmt.fld3 rfl (by kernel_rfl) (opd_tmp rfl)))
      (.cons rfl (by decide) (.guarded rfl rfl (by decide) rfl dt_bv (fun hg => op_load rfl (by kernel_rfl) (opd_g hg rfl)))
      (.cons rfl (by decide) (.guarded rfl rfl (by decide) rfl dt_bv (fun hg => op_call (l := [.tmp 87]) rfl (by kernel_rfl) (.cons (opd_g hg rfl) .nil) (spec_validPart_ok _)))
      (sc rfl ((op_and rfl (opd_tmp rfl) (opd_tmp rfl)))
      (sc rfl ((op_move rfl (opd_tmp rfl)))
      (.cons rfl (by decide) (.guarded rfl rfl (by decide) rfl dt_bv (fun hg => op_field Stmt.fld4 rfl (by kernel_rfl) (opd_tmp rfl)))
      (.cons rfl (by decide) (.guarded rfl rfl (by decide) rfl dt_bv (fun hg => op_load rfl (by kernel_rfl) (opd_g hg rfl)))
      (.cons rfl (by decide) (.guarded rfl rfl (by decide) rfl dt_bv (fun hg => op_call (l := [.tmp 92, .const (.int .i64 0), .const (.int .i64 99)]) rfl (by kernel_rfl) (.cons (opd_g hg rfl) (.cons opd_int (.cons opd_int .nil))) (spec_inRange_ok _ _ _)))
      (sc rfl ((op_and rfl (opd_tmp rfl) (opd_tmp rfl)))
      (sc rfl ((op_assign rfl (opd_tmp rfl)))
      .nil)))))))))))))))))))
      (kc 0 rfl (kc 1 rfl (kc 2 rfl (kc 4 rfl (kc 5 rfl (kc 25 rfl (kc 55 rfl (kc 75 rfl .nil)))))))) (fun a10 w10 e10 st10 => ?_)
     refine then_normal ?_
     refine wp_ret (blk_ret (thn_ret ?_))
     refine ret_dtM rfl (fun _ h => h) st10 (t := 2) rfl ?_
     rw [validStmt, if_neg (by rw [k0]; decide), if_neg (by rw [k1]; decide), if_neg (by rw [k2]; decide), if_pos k3]
    ·
     have k3 := h4
     refine wp_seq ?_
     refine region_seg st9 (sc rfl ((op_cmpI rfl (by decide) (opd_tmp rfl) opd_int))
      (sc rfl ((op_assign rfl (opd_tmp rfl)))
      .nil))
      (kc 0 rfl (kc 1 rfl (kc 2 rfl (kc 4 rfl (kc 5 rfl (kc 25 rfl (kc 55 rfl (kc 75 rfl (kc 95 rfl .nil))))))))) (fun a11 w11 e11 st11 => ?_)
     refine then_normal ?_
     refine cond_split (c := 95) st11 rfl (fun h5 => ?_) (fun h5 => ?_)
     ·
      have k4 := h5
      refine wp_seq ?_
      refine region_seg st11 (sc rfl ((op_field Stmt.fld1 rfl (by kernel_rfl) (opd_tmp rfl)))
       (sc rfl ((op_load rfl (by kernel_rfl) (opd_tmp rfl)))
       (sc rfl ((op_eqS rfl (opd_tmp rfl) (opd_str (by decide))))
       (sc rfl ((op_move rfl (opd_tmp rfl)))
       (.cons rfl (by decide) (.guarded rfl rfl (by decide) rfl dt_bv (fun hg => op_field Stmt.fld2 rfl (by kernel_rfl) (opd_tmp rfl)))
       (.cons rfl (by decide) (.guarded rfl rfl (by decide) rfl dt_bv (fun hg => op_load rfl (by kernel_rfl) (opd_g hg rfl)))
       (.cons rfl (by decide) (.guarded rfl rfl (by decide) rfl dt_bv (fun hg => op_cmpI rfl (by decide) (opd_g hg rfl) opd_int))
       (sc rfl ((op_and rfl (opd_tmp rfl) (opd_tmp rfl)))
       (sc rfl ((op_move rfl (opd_tmp rfl)))
       (.cons rfl (by decide) (.guarded rfl rfl (by decide) rfl dt_bv (fun hg => op_field Stmt.fld3 rfl (by kernel_rfl) (opd_tmp rfl)))
       (.cons rfl (by decide) (.guarded rfl rfl (by decide) rfl dt_bv (fun hg => op_load rfl (by kernel_rfl) (opd_g hg rfl)))
       (.cons rfl (by decide) (.guarded rfl rfl (by decide) rfl dt_bv (fun hg => op_call (l := [.tmp 107]) rfl (by kernel_rfl) (.cons (opd_g hg rfl) .nil) (spec_validPart_ok _)))
       (sc rfl ((op_and rfl (opd_tmp rfl) (opd_tmp rfl)))
       (sc rfl ((op_move rfl (opd_tmp rfl)))
       (.cons rfl (by decide) (.guarded rfl rfl (by decide) rfl dt_bv (fun hg => op_field Stmt.fld4 rfl (by kernel_rfl) (opd_tmp rfl)))
       (.cons rfl (by decide) (.guarded rfl rfl (by decide) rfl dt_bv (fun hg => op_load rfl (by kernel_rfl) (opd_g hg rfl)))
       (.cons rfl (by decide) (.guarded rfl rfl (by decide) rfl dt_bv (fun hg => op_cmpI rfl (by decide) (opd_g hg rfl) opd_int))
       (sc rfl ((op_and rfl (opd_tmp rfl) (opd_tmp rfl)))
       (sc rfl ((op_assign rfl (opd_tmp rfl)))
       .nil)))))))))))))))))))
       (kc 0 rfl (kc 1 rfl (kc 2 rfl (kc 4 rfl (kc 5 rfl (kc 25 rfl (kc 55 rfl (kc 75 rfl (kc 95 rfl .nil))))))))) (fun a12 w12 e12 st12 => ?_)
      refine then_normal ?_
      refine wp_ret (blk_ret (thn_ret ?_))
      refine ret_dtM rfl (fun _ h => h) st12 (t := 2) rfl ?_
      rw [validStmt, if_neg (by rw [k0]; decide), if_neg (by rw [k1]; decide), if_neg (by rw [k2]; decide), if_neg (by rw [k3]; decide), if_pos k4]
     ·
      have k4 := h5
      refine wp_seq ?_
      refine region_seg st11 (sc rfl ((op_cmpI rfl (by decide) (opd_tmp rfl) opd_int))
       (sc rfl ((op_assign rfl (opd_tmp rfl)))
       .nil))
       (kc 0 rfl (kc 1 rfl (kc 2 rfl (kc 4 rfl (kc 5 rfl (kc 25 rfl (kc 55 rfl (kc 75 rfl (kc 95 rfl (kc 115 rfl .nil)))))))))) (fun a13 w13 e13 st13 => ?_)
      refine then_normal ?_
      refine cond_split (c := 115) st13 rfl (fun h6 => ?_) (fun h6 => ?_)
      ·
       have k5 := h6
       refine wp_seq ?_
       refine region_seg st13 (sc rfl ((op_load rfl (by kernel_rfl) (opd_tmp rfl)))
        (sc rfl ((op_build (parts := [(0, .const (.int .i64 5))]) (ns := [1, 1, 1, 1, 1]) (zs := [[.int .i64 0], [.string ⟨⟨[]⟩⟩], [.int .i64 0], [.string ⟨⟨[]⟩⟩], [.int .i64 0]]) rfl rfl (by kernel_rfl) (by kernel_rfl) (fun w a hl => by
    intro p hp
    simp only [List.mem_cons, List.not_mem_nil, or_false] at hp
    rcases hp with rfl
    ·
     exact
        ⟨by decide, rfl⟩) (fun w a hl => Stmt.parts (x := ⟨5, ⟨[]⟩, 0, ⟨[]⟩, 0⟩) (OpdR.cells opd_int hl) zero_str ⟨rfl, trivial⟩ zero_str ⟨rfl, trivial⟩)))
        (sc rfl ((op_eqStmt rfl (by kernel_rfl) (opd_tmp rfl) (opd_tmp rfl)))
        (sc rfl ((op_assign rfl (opd_tmp rfl)))
        .nil))))
        (kc 0 rfl (kc 1 rfl (kc 2 rfl (kc 4 rfl (kc 5 rfl (kc 25 rfl (kc 55 rfl (kc 75 rfl (kc 95 rfl (kc 115 rfl .nil)))))))))) (fun a14 w14 e14 st14 => ?_)
       refine then_normal ?_
       refine wp_ret (blk_ret (thn_ret ?_))
       refine ret_dtM rfl (fun _ h => h) st14 (t := 2) rfl ?_
       rw [validStmt, if_neg (by rw [k0]; decide), if_neg (by rw [k1]; decide), if_neg (by rw [k2]; decide), if_neg (by rw [k3]; decide), if_neg (by rw [k4]; decide), if_pos k5]
      ·
       have k5 := h6
       refine wp_skip (blk_normal (then_normal (wp_seq ?_)))
       refine region_seg st13 (sc rfl ((op_assign rfl opd_bool))
        .nil)
        (kc 0 rfl (kc 1 rfl (kc 2 rfl (kc 4 rfl (kc 5 rfl (kc 25 rfl (kc 55 rfl (kc 75 rfl (kc 95 rfl (kc 115 rfl .nil)))))))))) (fun a15 w15 e15 st15 => ?_)
       refine then_normal (wp_ret ?_)
       refine ret_dtM rfl (fun _ h => h) st15 (t := 2) rfl ?_
       rw [validStmt, if_neg (by rw [k0]; decide), if_neg (by rw [k1]; decide), if_neg (by rw [k2]; decide), if_neg (by rw [k3]; decide), if_neg (by rw [k4]; decide), if_neg (by rw [k5]; decide)]
theorem spec_validBody_ok (b : List Stmt) (hb : b.length <= 1048576 /\ ∀ s ∈ b, smStmt s) : Fn Tryz.prog 138 [dt b] (dt (validBody b)) := by
 refine fn_of_wp (fn := Tryz.f138) Tryz.func138 rfl (of_decide_eq_true rfl) (fun M w0 a0 hm st0 => ?_)
 have hlen := hb.1
 refine wp_seq ?_
 refine region_seg st0 (sc rfl ((op_assign rfl opd_bool))
  .nil)
  (kc 0 rfl (kc 2 rfl .nil)) (fun a1 w1 e1 st1 => ?_)
 refine then_normal (wp_seq (wp_seq ?_))
 refine region_seg st1 (sc rfl ((op_assign rfl opd_int))
  .nil)
  (kc 0 rfl (kc 2 rfl (kc 3 rfl .nil))) (fun a2 w2 e2 st2 => ?_)
 refine then_normal (wp_block ?_)
 refine loop_st (ι := Nat) (fun k a w => St (Frm.of w0) 19 M [(0, dt b), (3, dt (k : Int))] a w /\ k <= b.length /\ (b.take k).all validStmt = true) (fun k => b.length - k) 0 ?_ ?_
 ·
  exact ⟨st2.pick (kc 0 rfl (kc 3 rfl .nil)), Nat.zero_le _, by simp⟩
 ·
  rintro k a3 w3 ⟨st3, hk, hp⟩
  refine wp_seq (wp_seq ?_)
  refine region_seg st3 (sc rfl ((op_move rfl (opd_tmp rfl)))
   (sc rfl ((op_move rfl (opd_tmp rfl)))
   (sc rfl ((op_lenL rfl (by kernel_rfl) (opd_tmp rfl)))
   (sc rfl ((op_cmpI rfl (by decide) (opd_tmp rfl) (opd_tmp rfl)))
   .nil))))
   (kc 0 rfl (kc 3 rfl (kc 7 rfl .nil))) (fun a4 w4 e4 st4 => ?_)
  refine then_normal ?_
  refine cond_split (c := 7) st4 rfl (fun h1 => ?_) (fun h1 => ?_)
  ·
   obtain ⟨x, hx⟩ := idx_of h1
   have hlt := lt_of_get hx
   refine wp_skip (then_normal (wp_seq (wp_block (wp_seq ?_))))
   refine region_seg st4 (sc rfl ((op_move rfl (opd_tmp rfl)))
    (sc rfl ((op_move rfl (opd_tmp rfl)))
    (sc rfl ((op_indexE rfl (by kernel_rfl) (opd_tmp rfl) (opd_tmp rfl) rfl (by assumption)))
    (sc rfl ((op_load rfl (by kernel_rfl) (opd_tmp rfl)))
    (sc rfl ((op_call (l := [.tmp 13]) rfl (by kernel_rfl) (.cons (opd_tmp rfl) .nil) (spec_validStmt_ok _ (hb.2 _ (List.mem_of_getElem? hx)))))
    (sc rfl ((op_not rfl (opd_tmp rfl)))
    .nil))))))
    (kc 0 rfl (kc 3 rfl (kc 7 rfl (kc 15 rfl .nil)))) (fun a5 w5 e5 st5 => ?_)
   refine then_normal ?_
   refine cond_split (c := 15) st5 rfl (fun h2 => ?_) (fun h2 => ?_)
   ·
    have ht := h2
    refine wp_seq ?_
    refine region_seg st5 (sc rfl ((op_assign rfl opd_bool))
     .nil)
     (kc 0 rfl (kc 2 rfl (kc 3 rfl (kc 7 rfl (kc 15 rfl .nil))))) (fun a6 w6 e6 st6 => ?_)
    refine then_normal ?_
    refine wp_ret (blk_ret (thn_ret (thn_ret (blk_ret (thn_ret ?_)))))
    refine ret_dtM rfl (fun _ h => h) st6 (t := 2) rfl ?_
    unfold validBody
    rw [all_fail hx (by simpa using ht)]
    rfl
   ·
    have hf := h2
    refine wp_skip (blk_normal (then_normal ?_))
    refine region_seg st5 (sc rfl ((op_move rfl (opd_tmp rfl)))
     (sc rfl ((op_arI rfl (by decide) (opd_tmp rfl) opd_int (by simp only [arI]; omega)))
     (sc rfl ((op_assign rfl (opd_tmp rfl)))
     .nil)))
     (kc 0 rfl (kc 3 rfl (kc 7 rfl (kc 15 rfl .nil)))) (fun a7 w7 e7 st7 => ?_)
    refine then_normal ⟨k+1, ⟨st7.pick (kc 0 rfl (kc 3 rfl .nil)), by omega, all_next hx hp (by simpa using hf)⟩, by omega⟩
  ·
   have hend := end_of h1
   refine wp_exit (thn_exit (thn_exit (exit_here ?_)))
   refine then_normal (wp_seq ?_)
   refine region_seg st4 (sc rfl ((op_move rfl (opd_tmp rfl)))
    (sc rfl ((op_lenL rfl (by kernel_rfl) (opd_tmp rfl)))
    (sc rfl ((op_cmpI rfl (by decide) (opd_tmp rfl) opd_int))
    (sc rfl ((op_assign rfl (opd_tmp rfl)))
    .nil))))
    (kc 0 rfl (kc 2 rfl (kc 3 rfl (kc 7 rfl .nil)))) (fun a8 w8 e8 st8 => ?_)
   refine then_normal (wp_ret ?_)
   refine ret_dtM rfl (fun _ h => h) st8 (t := 2) rfl ?_
   unfold validBody
   rw [all_end hend hp]
   rfl
theorem spec_validFile_ok (f : File) (hf : smFile f) : Fn Tryz.prog 97 [dt f] (dt (validFile f)) := by
 refine fn_of_wp (fn := Tryz.f97) Tryz.func97 rfl (of_decide_eq_true rfl) (fun M w0 a0 hm st0 => ?_)
 refine wp_seq ?_
 refine region_seg st0 (sc rfl ((op_box rfl (opd_tmp rfl)))
  (sc rfl ((op_assign rfl opd_bool))
  .nil))
  (kc 0 rfl (kc 1 rfl (kc 2 rfl .nil))) (fun a1 w1 e1 st1 => ?_)
 refine then_normal (wp_seq (wp_seq ?_))
 refine region_seg st1 (sc rfl ((op_field File.fld0 rfl (by kernel_rfl) (opd_tmp rfl)))
  (sc rfl ((op_load rfl (by kernel_rfl) (opd_tmp rfl)))
  (sc rfl ((op_call (l := [.tmp 4, .const (.int .i64 0), .const (.int .i64 2)]) rfl (by kernel_rfl) (.cons (opd_tmp rfl) (.cons opd_int (.cons opd_int .nil))) (spec_inRange_ok _ _ _)))
  (sc rfl ((op_not rfl (opd_tmp rfl)))
  (sc rfl ((op_move rfl (opd_tmp rfl)))
  (.cons rfl (by decide) (.guarded rfl rfl (by decide) rfl dt_bv (fun hg => op_field File.fld4 rfl (by kernel_rfl) (opd_tmp rfl)))
  (.cons rfl (by decide) (.guarded rfl rfl (by decide) rfl dt_bv (fun hg => op_load rfl (by kernel_rfl) (opd_g hg rfl)))
  (.cons rfl (by decide) (.guarded rfl rfl (by decide) rfl dt_bv (fun hg => op_call (l := [.tmp 9, .const (.int .i64 0), .const (.int .i64 99)]) rfl (by kernel_rfl) (.cons (opd_g hg rfl) (.cons opd_int (.cons opd_int .nil))) (spec_inRange_ok _ _ _)))
  (.cons rfl (by decide) (.guarded rfl rfl (by decide) rfl dt_bv (fun hg => op_not rfl (opd_g hg rfl)))
  (sc rfl ((op_or rfl (opd_tmp rfl) (opd_tmp rfl)))
  (sc rfl ((op_move rfl (opd_tmp rfl)))
  (.cons rfl (by decide) (.guarded rfl rfl (by decide) rfl dt_bv (fun hg => op_field File.fld1 rfl (by kernel_rfl) (opd_tmp rfl)))
  (.cons rfl (by decide) (.guarded rfl rfl (by decide) rfl dt_bv (fun hg => op_load rfl (by kernel_rfl) (opd_g hg rfl)))
  (.cons rfl (by decide) (.guarded rfl rfl (by decide) rfl dt_bv (fun hg => op_call (l := [.tmp 15]) rfl (by kernel_rfl) (.cons (opd_g hg rfl) .nil) (spec_validPackage_ok _ (by have := hf.1; unfold mid; omega))))
  (.cons rfl (by decide) (.guarded rfl rfl (by decide) rfl dt_bv (fun hg => op_not rfl (opd_g hg rfl)))
  (sc rfl ((op_or rfl (opd_tmp rfl) (opd_tmp rfl)))
  (sc rfl ((op_move rfl (opd_tmp rfl)))
  (.cons rfl (by decide) (.guarded rfl rfl (by decide) rfl dt_bv (fun hg => op_field File.fld5 rfl (by kernel_rfl) (opd_tmp rfl)))
  (.cons rfl (by decide) (.guarded rfl rfl (by decide) rfl dt_bv (fun hg => op_load rfl (by kernel_rfl) (opd_g hg rfl)))
  (.cons rfl (by decide) (.guarded rfl rfl (by decide) rfl dt_bv (fun hg => op_call (l := [.tmp 21]) rfl (by kernel_rfl) (.cons (opd_g hg rfl) .nil) (spec_validBody_ok _ ⟨hf.2.2.1, hf.2.2.2⟩)))
  (.cons rfl (by decide) (.guarded rfl rfl (by decide) rfl dt_bv (fun hg => op_not rfl (opd_g hg rfl)))
  (sc rfl ((op_or rfl (opd_tmp rfl) (opd_tmp rfl)))
  .nil))))))))))))))))))))))
  (kc 0 rfl (kc 1 rfl (kc 2 rfl (kc 24 rfl .nil)))) (fun a2 w2 e2 st2 => ?_)
 refine then_normal ?_
 refine cond_split (c := 24) st2 rfl (fun h1 => ?_) (fun h1 => ?_)
 ·
  have g1 := h1
  refine wp_seq ?_
  refine region_seg st2 (sc rfl ((op_assign rfl opd_bool))
   .nil)
   (kc 0 rfl (kc 1 rfl (kc 2 rfl (kc 24 rfl .nil)))) (fun a3 w3 e3 st3 => ?_)
  refine then_normal ?_
  refine wp_ret (thn_ret ?_)
  refine ret_dtM rfl (fun _ h => h) st3 (t := 2) rfl ?_
  rw [validFile, if_pos g1]
 ·
  have g1 := h1
  refine wp_skip (then_normal (wp_seq (wp_seq ?_)))
  refine region_seg st2 (sc rfl ((op_field File.fld3 rfl (by kernel_rfl) (opd_tmp rfl)))
   (sc rfl ((op_load rfl (by kernel_rfl) (opd_tmp rfl)))
   .nil))
   (kc 0 rfl (kc 1 rfl (kc 2 rfl (kc 24 rfl (kc 26 rfl .nil))))) (fun a4 w4 e4 st4 => ?_)
  refine then_normal ?_
  refine cond_split (c := 26) st4 rfl (fun h2 => ?_) (fun h2 => ?_)
  ·
   have g2 := h2
   refine wp_seq ?_
   refine region_seg st4 (sc rfl ((op_field File.fld1 rfl (by kernel_rfl) (opd_tmp rfl)))
    (sc rfl ((op_load rfl (by kernel_rfl) (opd_tmp rfl)))
    (sc rfl ((op_neS rfl (opd_tmp rfl) (opd_str (by decide))))
    (sc rfl ((op_move rfl (opd_tmp rfl)))
    (.cons rfl (by decide) (.guarded rfl rfl (by decide) rfl dt_bv (fun hg => op_field File.fld2 rfl (by kernel_rfl) (opd_tmp rfl)))
    (.cons rfl (by decide) (.guarded rfl rfl (by decide) rfl dt_bv (fun hg => op_load rfl (by kernel_rfl) (opd_g hg rfl)))
    (.cons rfl (by decide) (.guarded rfl rfl (by decide) rfl dt_bv (fun hg => op_eqS rfl (opd_g hg rfl) (opd_str (by decide))))
    (sc rfl ((op_and rfl (opd_tmp rfl) (opd_tmp rfl)))
    (sc rfl ((op_assign rfl (opd_tmp rfl)))
    .nil)))))))))
    (kc 0 rfl (kc 1 rfl (kc 2 rfl (kc 24 rfl (kc 26 rfl .nil))))) (fun a5 w5 e5 st5 => ?_)
   refine then_normal ?_
   refine wp_ret (thn_ret ?_)
   refine ret_dtM rfl (fun _ h => h) st5 (t := 2) rfl ?_
   rw [validFile, if_neg (by rw [g1]; decide), if_pos g2]; rfl
  ·
   have g2 := h2
   refine wp_skip (then_normal (wp_seq ?_))
   refine region_seg st4 (sc rfl ((op_field File.fld2 rfl (by kernel_rfl) (opd_tmp rfl)))
    (sc rfl ((op_load rfl (by kernel_rfl) (opd_tmp rfl)))
    (sc rfl ((op_call (l := [.tmp 36]) rfl (by kernel_rfl) (.cons (opd_tmp rfl) .nil) (spec_validPart_ok _)))
    (sc rfl ((op_move rfl (opd_tmp rfl)))
    (.cons rfl (by decide) (.guarded rfl rfl (by decide) rfl dt_bv (fun hg => op_field File.fld1 rfl (by kernel_rfl) (opd_tmp rfl)))
    (.cons rfl (by decide) (.guarded rfl rfl (by decide) rfl dt_bv (fun hg => op_load rfl (by kernel_rfl) (opd_g hg rfl)))
    (.cons rfl (by decide) (.guarded rfl rfl (by decide) rfl dt_bv (fun hg => op_field File.fld2 rfl (by kernel_rfl) (opd_tmp rfl)))
    (.cons rfl (by decide) (.guarded rfl rfl (by decide) rfl dt_bv (fun hg => op_load rfl (by kernel_rfl) (opd_g hg rfl)))
    (.cons rfl (by decide) (.guarded rfl rfl (by decide) rfl dt_bv (fun hg => op_call (l := [.tmp 40, .tmp 42]) rfl (by kernel_rfl) (.cons (opd_g hg rfl) (.cons (opd_g hg rfl) .nil)) (spec_child_ok _ _ (by have := hf.1; have := hf.2.1; omega))))
    (.cons rfl (by decide) (.guarded rfl rfl (by decide) rfl dt_bv (fun hg => op_call (l := [.tmp 43]) rfl (by kernel_rfl) (.cons (opd_g hg rfl) .nil) (spec_validName_ok _ (child_mid (by have := hf.1; have := hf.2.1; omega)))))
    (sc rfl ((op_and rfl (opd_tmp rfl) (opd_tmp rfl)))
    (sc rfl ((op_assign rfl (opd_tmp rfl)))
    .nil))))))))))))
    (kc 0 rfl (kc 1 rfl (kc 2 rfl (kc 24 rfl (kc 26 rfl .nil))))) (fun a6 w6 e6 st6 => ?_)
   refine then_normal (wp_ret ?_)
   refine ret_dtM rfl (fun _ h => h) st6 (t := 2) rfl ?_
   rw [validFile, if_neg (by rw [g1]; decide), if_neg (by rw [g2]; decide)]
theorem spec_sameFile_ok (f g : File) : Fn Tryz.prog 140 [dt f, dt g] (dt (sameFile f g)) := by
 refine fn_of_wp (fn := Tryz.f140) Tryz.func140 rfl (of_decide_eq_true rfl) (fun M w0 a0 hm st0 => ?_)
 refine wp_seq ?_
 refine region_seg st0 (sc rfl ((op_box rfl (opd_tmp rfl)))
  (sc rfl ((op_box rfl (opd_tmp rfl)))
  (sc rfl ((op_assign rfl opd_bool))
  .nil)))
  (kc 0 rfl (kc 1 rfl (kc 2 rfl (kc 3 rfl (kc 4 rfl .nil))))) (fun a1 w1 e1 st1 => ?_)
 refine then_normal (wp_seq ?_)
 refine region_seg st1 (sc rfl ((op_field File.fld0 rfl (by kernel_rfl) (opd_tmp rfl)))
  (sc rfl ((op_load rfl (by kernel_rfl) (opd_tmp rfl)))
  (sc rfl ((op_field File.fld0 rfl (by kernel_rfl) (opd_tmp rfl)))
  (sc rfl ((op_load rfl (by kernel_rfl) (opd_tmp rfl)))
  (sc rfl ((op_cmpI rfl (by decide) (opd_tmp rfl) (opd_tmp rfl)))
  (sc rfl ((op_move rfl (opd_tmp rfl)))
  (.cons rfl (by decide) (.guarded rfl rfl (by decide) rfl dt_bv (fun hg => op_field File.fld1 rfl (by kernel_rfl) (opd_tmp rfl)))
  (.cons rfl (by decide) (.guarded rfl rfl (by decide) rfl dt_bv (fun hg => op_load rfl (by kernel_rfl) (opd_g hg rfl)))
  (.cons rfl (by decide) (.guarded rfl rfl (by decide) rfl dt_bv (fun hg => op_field File.fld1 rfl (by kernel_rfl) (opd_tmp rfl)))
  (.cons rfl (by decide) (.guarded rfl rfl (by decide) rfl dt_bv (fun hg => op_load rfl (by kernel_rfl) (opd_g hg rfl)))
  (.cons rfl (by decide) (.guarded rfl rfl (by decide) rfl dt_bv (fun hg => op_eqS rfl (opd_g hg rfl) (opd_g hg rfl)))
  (sc rfl ((op_and rfl (opd_tmp rfl) (opd_tmp rfl)))
  (sc rfl ((op_move rfl (opd_tmp rfl)))
  (.cons rfl (by decide) (.guarded rfl rfl (by decide) rfl dt_bv (fun hg => op_field File.fld3 rfl (by kernel_rfl) (opd_tmp rfl)))
  (.cons rfl (by decide) (.guarded rfl rfl (by decide) rfl dt_bv (fun hg => op_load rfl (by kernel_rfl) (opd_g hg rfl)))
  (.cons rfl (by decide) (.guarded rfl rfl (by decide) rfl dt_bv (fun hg => op_field File.fld3 rfl (by kernel_rfl) (opd_tmp rfl)))
  (.cons rfl (by decide) (.guarded rfl rfl (by decide) rfl dt_bv (fun hg => op_load rfl (by kernel_rfl) (opd_g hg rfl)))
  (.cons rfl (by decide) (.guarded rfl rfl (by decide) rfl dt_bv (fun hg => op_eqT rfl (by kernel_rfl) (opd_g hg rfl) (opd_g hg rfl)))
  (sc rfl ((op_and rfl (opd_tmp rfl) (opd_tmp rfl)))
  (sc rfl ((op_move rfl (opd_tmp rfl)))
  (.cons rfl (by decide) (.guarded rfl rfl (by decide) rfl dt_bv (fun hg => op_field File.fld2 rfl (by kernel_rfl) (opd_tmp rfl)))
  (.cons rfl (by decide) (.guarded rfl rfl (by decide) rfl dt_bv (fun hg => op_load rfl (by kernel_rfl) (opd_g hg rfl)))
  (.cons rfl (by decide) (.guarded rfl rfl (by decide) rfl dt_bv (fun hg => op_field File.fld2 rfl (by kernel_rfl) (opd_tmp rfl)))
  (.cons rfl (by decide) (.guarded rfl rfl (by decide) rfl dt_bv (fun hg => op_load rfl (by kernel_rfl) (opd_g hg rfl)))
  (.cons rfl (by decide) (.guarded rfl rfl (by decide) rfl dt_bv (fun hg => op_eqS rfl (opd_g hg rfl) (opd_g hg rfl)))
  (sc rfl ((op_and rfl (opd_tmp rfl) (opd_tmp rfl)))
  (sc rfl ((op_assign rfl (opd_tmp rfl)))
  .nil)))))))))))))))))))))))))))
  (kc 0 rfl (kc 1 rfl (kc 2 rfl (kc 3 rfl (kc 4 rfl .nil))))) (fun a2 w2 e2 st2 => ?_)
 refine then_normal (wp_ret ?_)
 refine ret_dtM rfl (fun _ h => h) st2 (t := 4) rfl ?_
 simp [sameFile, cmpI]
theorem spec_fileAt_ok (t : Tree) (f : File) : Fn Tryz.prog 98 [dt t, dt f] (dt (fileAt t.files f)) := by
 refine fn_of_wp (fn := Tryz.f98) Tryz.func98 rfl (of_decide_eq_true rfl) (fun M w0 a0 hm st0 => ?_)
 have hlen := st0.fldL Tree.fld0 (s := 0) rfl
 refine wp_seq ?_
 refine region_seg st0 (sc rfl ((op_box rfl (opd_tmp rfl)))
  (sc rfl ((op_box rfl (opd_tmp rfl)))
  (sc rfl ((op_assign rfl opd_int))
  .nil)))
  (kc 0 rfl (kc 1 rfl (kc 2 rfl (kc 3 rfl (kc 4 rfl .nil))))) (fun a1 w1 e1 st1 => ?_)
 refine then_normal (wp_seq (wp_seq ?_))
 refine region_seg st1 (sc rfl ((op_assign rfl opd_int))
  .nil)
  (kc 0 rfl (kc 1 rfl (kc 2 rfl (kc 3 rfl (kc 4 rfl (kc 5 rfl .nil)))))) (fun a2 w2 e2 st2 => ?_)
 refine then_normal (wp_block ?_)
 refine loop_st (ι := Nat) (fun k a w => St (Frm.of w0) 21 M [(0, dt t), (1, dt f), (2, dptr t), (3, dptr f), (5, dt (k : Int))] a w /\ k <= t.files.length /\ (t.files.take k).any (fun x => sameFile x f) = false) (fun k => t.files.length - k) 0 ?_ ?_
 ·
  exact ⟨st2.pick (kc 0 rfl (kc 1 rfl (kc 2 rfl (kc 3 rfl (kc 5 rfl .nil))))), Nat.zero_le _, by simp⟩
 ·
  rintro k a3 w3 ⟨st3, hk, hp⟩
  refine wp_seq (wp_seq ?_)
  refine region_seg st3 (sc rfl ((op_move rfl (opd_tmp rfl)))
   (sc rfl ((op_field Tree.fld0 rfl (by kernel_rfl) (opd_tmp rfl)))
   (sc rfl ((op_load rfl (by kernel_rfl) (opd_tmp rfl)))
   (sc rfl ((op_lenL rfl (by kernel_rfl) (opd_tmp rfl)))
   (sc rfl ((op_cmpI rfl (by decide) (opd_tmp rfl) (opd_tmp rfl)))
   .nil)))))
   (kc 0 rfl (kc 1 rfl (kc 2 rfl (kc 3 rfl (kc 5 rfl (kc 10 rfl .nil)))))) (fun a4 w4 e4 st4 => ?_)
  refine then_normal ?_
  refine cond_split (c := 10) st4 rfl (fun h1 => ?_) (fun h1 => ?_)
  ·
   obtain ⟨x, hx⟩ := idx_of h1
   have hlt := lt_of_get hx
   refine wp_skip (then_normal (wp_seq (wp_block (wp_seq ?_))))
   refine region_any Tryz_mixed [[], [0], [], [0, 1, 2], [0, 1, 2, 3], [], [0, 1, 2, 3, 4, 5]] [[(2, none)], [(13, some 0)], [(5, none)], [(14, some 1), (15, some 2)], [(16, some 3)], [(3, none)], [(17, some 4), (18, some 5)]] (by decide +kernel) st4 (D := [_, _, _, _, _, _, _])
    (.cons rfl (by decide) rfl (.plain rfl (op_field Tree.fld0 rfl (by kernel_rfl) (opd_tmp rfl)))
    (.cons rfl (by decide) rfl (.plain rfl (op_load rfl (by kernel_rfl) (opd_tmp rfl)))
    (.cons rfl (by decide) rfl (.plain rfl (op_move rfl (opd_tmp rfl)))
    (.cons rfl (by decide) rfl (.plain rfl (op_indexE rfl (by kernel_rfl) (opd_tmp rfl) (opd_tmp rfl) rfl (by assumption)))
    (.cons rfl (by decide) rfl (.plain rfl (op_load rfl (by kernel_rfl) (opd_tmp rfl)))
    (.cons rfl (by decide) rfl (.plain rfl (op_load rfl (by kernel_rfl) (opd_tmp rfl)))
    (.cons rfl (by decide) rfl (.plain rfl (op_call (l := [.tmp 17, .tmp 18]) rfl (by kernel_rfl) (.cons (opd_tmp rfl) (.cons (opd_tmp rfl) .nil)) (spec_sameFile_ok _ _)))
    .nil)))))))
    (kc 0 rfl (kc 1 rfl (kc 2 rfl (kc 3 rfl (kc 5 rfl (kc 10 rfl (kc 19 rfl .nil))))))) (fun a5 w5 e5 st5 => ?_)
   refine then_normal ?_
   refine cond_split (c := 19) st5 rfl (fun h2 => ?_) (fun h2 => ?_)
   ·
    have ht := h2
    refine wp_seq ?_
    refine region_seg st5 (sc rfl ((op_move rfl (opd_tmp rfl)))
     (sc rfl ((op_assign rfl (opd_tmp rfl)))
     .nil))
     (kc 0 rfl (kc 1 rfl (kc 2 rfl (kc 3 rfl (kc 4 rfl (kc 5 rfl (kc 10 rfl (kc 19 rfl .nil)))))))) (fun a6 w6 e6 st6 => ?_)
    refine then_normal ?_
    refine wp_ret (blk_ret (thn_ret (thn_ret (blk_ret (thn_ret ?_)))))
    refine ret_dtM rfl (fun _ h => h) st6 (t := 4) rfl ?_
    exact (idx_hit hp hx ht).symm
   ·
    have hf := h2
    refine wp_skip (blk_normal (then_normal ?_))
    refine region_seg st5 (sc rfl ((op_move rfl (opd_tmp rfl)))
     (sc rfl ((op_arI rfl (by decide) (opd_tmp rfl) opd_int (by simp only [arI]; omega)))
     (sc rfl ((op_assign rfl (opd_tmp rfl)))
     .nil)))
     (kc 0 rfl (kc 1 rfl (kc 2 rfl (kc 3 rfl (kc 5 rfl (kc 10 rfl (kc 19 rfl .nil))))))) (fun a7 w7 e7 st7 => ?_)
    refine then_normal ⟨k+1, ⟨st7.pick (kc 0 rfl (kc 1 rfl (kc 2 rfl (kc 3 rfl (kc 5 rfl .nil))))), by omega, any_next hx hp hf⟩, by omega⟩
  ·
   have hend := end_of h1
   refine wp_exit (thn_exit (thn_exit (exit_here ?_)))
   refine then_normal (wp_seq ?_)
   refine region_seg st4 (sc rfl ((op_assign rfl opd_int))
    .nil)
    (kc 0 rfl (kc 1 rfl (kc 2 rfl (kc 3 rfl (kc 4 rfl (kc 5 rfl (kc 10 rfl .nil))))))) (fun a8 w8 e8 st8 => ?_)
   refine then_normal (wp_ret ?_)
   refine ret_dtM rfl (fun _ h => h) st8 (t := 4) rfl ?_
   exact (idx_end hend hp).symm
theorem spec_intAt_ok (l : List Int) (n : Int) : Fn Tryz.prog 100 [dt l, dt n] (dt (intAt l n)) := by
 refine fn_of_wp (fn := Tryz.f100) Tryz.func100 rfl (of_decide_eq_true rfl) (fun M w0 a0 hm st0 => ?_)
 have hlen := st0.lenL (s := 0) rfl
 refine wp_seq ?_
 refine region_seg st0 (sc rfl ((op_assign rfl opd_int))
  .nil)
  (kc 0 rfl (kc 1 rfl (kc 4 rfl .nil))) (fun a1 w1 e1 st1 => ?_)
 refine then_normal (wp_seq (wp_seq ?_))
 refine region_seg st1 (sc rfl ((op_assign rfl opd_int))
  .nil)
  (kc 0 rfl (kc 1 rfl (kc 4 rfl (kc 5 rfl .nil)))) (fun a2 w2 e2 st2 => ?_)
 refine then_normal (wp_block ?_)
 refine loop_st (ι := Nat) (fun k a w => St (Frm.of w0) 19 M [(0, dt l), (1, dt n), (5, dt (k : Int))] a w /\ k <= l.length /\ (l.take k).any (fun x => x == n) = false) (fun k => l.length - k) 0 ?_ ?_
 ·
  exact ⟨st2.pick (kc 0 rfl (kc 1 rfl (kc 5 rfl .nil))), Nat.zero_le _, by simp⟩
 ·
  rintro k a3 w3 ⟨st3, hk, hp⟩
  refine wp_seq (wp_seq ?_)
  refine region_seg st3 (sc rfl ((op_move rfl (opd_tmp rfl)))
   (sc rfl ((op_move rfl (opd_tmp rfl)))
   (sc rfl ((op_lenL rfl (by kernel_rfl) (opd_tmp rfl)))
   (sc rfl ((op_cmpI rfl (by decide) (opd_tmp rfl) (opd_tmp rfl)))
   .nil))))
   (kc 0 rfl (kc 1 rfl (kc 5 rfl (kc 9 rfl .nil)))) (fun a4 w4 e4 st4 => ?_)
  refine then_normal ?_
  refine cond_split (c := 9) st4 rfl (fun h1 => ?_) (fun h1 => ?_)
  ·
   obtain ⟨x, hx⟩ := idx_of h1
   have hlt := lt_of_get hx
   refine wp_skip (then_normal (wp_seq (wp_block (wp_seq ?_))))
   refine region_seg st4 (sc rfl ((op_move rfl (opd_tmp rfl)))
    (sc rfl ((op_move rfl (opd_tmp rfl)))
    (sc rfl ((op_indexE rfl (by kernel_rfl) (opd_tmp rfl) (opd_tmp rfl) rfl (by assumption)))
    (sc rfl ((op_load rfl (by kernel_rfl) (opd_tmp rfl)))
    (sc rfl ((op_move rfl (opd_tmp rfl)))
    (sc rfl ((op_cmpI rfl (by decide) (opd_tmp rfl) (opd_tmp rfl)))
    .nil))))))
    (kc 0 rfl (kc 1 rfl (kc 5 rfl (kc 9 rfl (kc 17 rfl .nil))))) (fun a5 w5 e5 st5 => ?_)
   refine then_normal ?_
   refine cond_split (c := 17) st5 rfl (fun h2 => ?_) (fun h2 => ?_)
   ·
    have ht := h2
    refine wp_seq ?_
    refine region_seg st5 (sc rfl ((op_move rfl (opd_tmp rfl)))
     (sc rfl ((op_assign rfl (opd_tmp rfl)))
     .nil))
     (kc 0 rfl (kc 1 rfl (kc 4 rfl (kc 5 rfl (kc 9 rfl (kc 17 rfl .nil)))))) (fun a6 w6 e6 st6 => ?_)
    refine then_normal ?_
    refine wp_ret (blk_ret (thn_ret (thn_ret (blk_ret (thn_ret ?_)))))
    refine ret_dtM rfl (fun _ h => h) st6 (t := 4) rfl ?_
    exact (idx_hit hp hx ht).symm
   ·
    have hf := h2
    refine wp_skip (blk_normal (then_normal ?_))
    refine region_seg st5 (sc rfl ((op_move rfl (opd_tmp rfl)))
     (sc rfl ((op_arI rfl (by decide) (opd_tmp rfl) opd_int (by simp only [arI]; omega)))
     (sc rfl ((op_assign rfl (opd_tmp rfl)))
     .nil)))
     (kc 0 rfl (kc 1 rfl (kc 5 rfl (kc 9 rfl (kc 17 rfl .nil))))) (fun a7 w7 e7 st7 => ?_)
    refine then_normal ⟨k+1, ⟨st7.pick (kc 0 rfl (kc 1 rfl (kc 5 rfl .nil))), by omega, any_next hx hp hf⟩, by omega⟩
  ·
   have hend := end_of h1
   refine wp_exit (thn_exit (thn_exit (exit_here ?_)))
   refine then_normal (wp_seq ?_)
   refine region_seg st4 (sc rfl ((op_assign rfl opd_int))
    .nil)
    (kc 0 rfl (kc 1 rfl (kc 4 rfl (kc 5 rfl (kc 9 rfl .nil))))) (fun a8 w8 e8 st8 => ?_)
   refine then_normal (wp_ret ?_)
   refine ret_dtM rfl (fun _ h => h) st8 (t := 4) rfl ?_
   exact (idx_end hend hp).symm
theorem spec_noSpec_ok  : Fn Tryz.prog 104 [] (dt noSpec) := by
 refine fn_of_wp (fn := Tryz.f104) Tryz.func104 rfl (of_decide_eq_true rfl) (fun M w0 a0 hm st0 => ?_)
 refine wp_seq (wp_region_list ?_)
 refine wpl_alloc (n := 3) st0 rfl rfl rfl (by decide) (by kernel_rfl) .nil (fun b1 a1 w1 hb1 hn1 e1 st1 => ?_)
 refine wpList_nil (then_normal (wp_seq (wp_region_list ?_)))
 refine seg_n 2 st1 (sc rfl ((op_lit (opds := []) (α := Int) rfl (by kernel_rfl) (by kernel_rfl) rfl rfl (by decide) .nil))
  (sc rfl ((op_build (parts := [(0, .const (.int .i64 0)), (1, .const (.int .i64 (-1))), (2, .tmp 1)]) (ns := [1, 1, 1]) (zs := [[.int .i64 0], [.int .i64 0], [.slice none 0 0]]) rfl rfl (by kernel_rfl) (by kernel_rfl) (fun w a hl => by
    intro p hp
    simp only [List.mem_cons, List.not_mem_nil, or_false] at hp
    rcases hp with rfl | rfl | rfl
    ·
     exact ⟨by decide, rfl⟩
    ·
     exact ⟨by decide, rfl⟩
    ·
     exact ⟨by decide, Rep.len (α := (List Int)) (OpdR.cells (opd_tmp rfl) hl)⟩) (fun w a hl => Spec.parts (x := ⟨0, -1, []⟩) (OpdR.cells opd_int hl) (OpdR.cells opd_int hl) (OpdR.cells (opd_tmp rfl) hl))))
  .nil))
  (kc 0 rfl (kc 2 rfl .nil)) (fun a2 w2 e2 st2 => ?_)
 refine wpl_storeNew st2 rfl rfl rfl (by kernel_rfl) rfl hb1 (.inr rfl) rfl (opd_tmp rfl) .nil (fun w3 st3 => ?_)
 refine wpList_nil (then_normal (wp_ret ?_))
 refine ret_box rfl (by kernel_rfl) st3 (t := 0) rfl (fun _ h => (.inl h)) ?_
 rfl
end Go.Proofs.YtbnibckkfknpkaaGreatDoor
namespace Go.Proofs.YtbnibckkfknpkaaGreatDoor
open Go.RowKit
set_option maxRecDepth 10000
theorem spec_hasDir_ok (t : Tree) (root : Int) (p : Str) (hp : p.l.length <= 1152921504606846976) : Fn Tryz.prog 141 [dt t, dt root, dt p] (dt (hasDir t.files root p)) := by
 refine fn_of_wp (fn := Tryz.f141) Tryz.func141 rfl (of_decide_eq_true rfl) (fun M w0 a0 hm st0 => ?_)
 have hlen := st0.fldL Tree.fld0 (s := 0) rfl
 refine wp_seq ?_
 refine region_seg st0 (sc rfl ((op_box rfl (opd_tmp rfl)))
  (sc rfl ((op_assign rfl opd_bool))
  .nil))
  (kc 0 rfl (kc 1 rfl (kc 2 rfl (kc 3 rfl (kc 6 rfl .nil))))) (fun a1 w1 e1 st1 => ?_)
 refine then_normal (wp_seq (wp_seq ?_))
 refine region_seg st1 (sc rfl ((op_assign rfl opd_int))
  .nil)
  (kc 0 rfl (kc 1 rfl (kc 2 rfl (kc 3 rfl (kc 6 rfl (kc 7 rfl .nil)))))) (fun a2 w2 e2 st2 => ?_)
 refine then_normal (wp_block ?_)
 refine loop_st (ι := Nat) (fun k a w => St (Frm.of w0) 44 M [(0, dt t), (1, dt root), (2, dt p), (3, dptr t), (7, dt (k : Int))] a w /\ k <= t.files.length /\ (t.files.take k).any (dirHit root p) = false) (fun k => t.files.length - k) 0 ?_ ?_
 ·
  exact ⟨st2.pick (kc 0 rfl (kc 1 rfl (kc 2 rfl (kc 3 rfl (kc 7 rfl .nil))))), Nat.zero_le _, by simp⟩
 ·
  rintro k a3 w3 ⟨st3, hk, hq⟩
  refine wp_seq (wp_seq ?_)
  refine region_seg st3 (sc rfl ((op_move rfl (opd_tmp rfl)))
   (sc rfl ((op_field Tree.fld0 rfl (by kernel_rfl) (opd_tmp rfl)))
   (sc rfl ((op_load rfl (by kernel_rfl) (opd_tmp rfl)))
   (sc rfl ((op_lenL rfl (by kernel_rfl) (opd_tmp rfl)))
   (sc rfl ((op_cmpI rfl (by decide) (opd_tmp rfl) (opd_tmp rfl)))
   .nil)))))
   (kc 0 rfl (kc 1 rfl (kc 2 rfl (kc 3 rfl (kc 7 rfl (kc 12 rfl .nil)))))) (fun a4 w4 e4 st4 => ?_)
  refine then_normal ?_
  refine cond_split (c := 12) st4 rfl (fun h1 => ?_) (fun h1 => ?_)
  ·
   obtain ⟨x, hx⟩ := idx_of h1
   have hlt := lt_of_get hx
   refine wp_skip (then_normal (wp_seq (wp_block (wp_seq ?_))))
   refine region_seg st4 (sc rfl ((op_field Tree.fld0 rfl (by kernel_rfl) (opd_tmp rfl)))
    (sc rfl ((op_load rfl (by kernel_rfl) (opd_tmp rfl)))
    (sc rfl ((op_move rfl (opd_tmp rfl)))
    (sc rfl ((op_indexE rfl (by kernel_rfl) (opd_tmp rfl) (opd_tmp rfl) rfl (by assumption)))
    (sc rfl ((op_field File.fld0 rfl (by kernel_rfl) (opd_tmp rfl)))
    (sc rfl ((op_load rfl (by kernel_rfl) (opd_tmp rfl)))
    (sc rfl ((op_move rfl (opd_tmp rfl)))
    (sc rfl ((op_cmpI rfl (by decide) (opd_tmp rfl) (opd_tmp rfl)))
    (sc rfl ((op_move rfl (opd_tmp rfl)))
    (.cons rfl (by decide) (.guarded rfl rfl (by decide) rfl dt_bv (fun hg => op_field Tree.fld0 rfl (by kernel_rfl) (opd_tmp rfl)))
    (.cons rfl (by decide) (.guarded rfl rfl (by decide) rfl dt_bv (fun hg => op_load rfl (by kernel_rfl) (opd_g hg rfl)))
    (.cons rfl (by decide) (.guarded rfl rfl (by decide) rfl dt_bv (fun hg => op_move rfl (opd_tmp rfl)))
    (.cons rfl (by decide) (.guarded rfl rfl (by decide) rfl dt_bv (fun hg => op_indexE rfl (by kernel_rfl) (opd_g hg rfl) (opd_g hg rfl) rfl (by assumption)))
    (.cons rfl (by decide) (.guarded rfl rfl (by decide) rfl dt_bv (fun hg => op_field File.fld1 rfl (by kernel_rfl) (opd_g hg rfl)))
    (.cons rfl (by decide) (.guarded rfl rfl (by decide) rfl dt_bv (fun hg => op_load rfl (by kernel_rfl) (opd_g hg rfl)))
    (.cons rfl (by decide) (.guarded rfl rfl (by decide) rfl dt_bv (fun hg => op_neS rfl (opd_g hg rfl) (opd_str (by decide))))
    (sc rfl ((op_and rfl (opd_tmp rfl) (opd_tmp rfl)))
    (sc rfl ((op_move rfl (opd_tmp rfl)))
    (.cons rfl (by decide) (.guarded rfl rfl (by decide) rfl dt_bv (fun hg => op_field Tree.fld0 rfl (by kernel_rfl) (opd_tmp rfl)))
    (.cons rfl (by decide) (.guarded rfl rfl (by decide) rfl dt_bv (fun hg => op_load rfl (by kernel_rfl) (opd_g hg rfl)))
    (.cons rfl (by decide) (.guarded rfl rfl (by decide) rfl dt_bv (fun hg => op_move rfl (opd_tmp rfl)))
    (.cons rfl (by decide) (.guarded rfl rfl (by decide) rfl dt_bv (fun hg => op_indexE rfl (by kernel_rfl) (opd_g hg rfl) (opd_g hg rfl) rfl (by assumption)))
    (.cons rfl (by decide) (.guarded rfl rfl (by decide) rfl dt_bv (fun hg => op_field File.fld1 rfl (by kernel_rfl) (opd_g hg rfl)))
    (.cons rfl (by decide) (.guarded rfl rfl (by decide) rfl dt_bv (fun hg => op_load rfl (by kernel_rfl) (opd_g hg rfl)))
    (.cons rfl (by decide) (.guarded rfl rfl (by decide) rfl dt_bv (fun hg => op_move rfl (opd_tmp rfl)))
    (.cons rfl (by decide) (.guarded rfl rfl (by decide) rfl dt_bv (fun hg => op_call (l := [.tmp 38, .tmp 39]) rfl (by kernel_rfl) (.cons (opd_g hg rfl) (.cons (opd_g hg rfl) .nil)) (spec_under_ok _ _ (by assumption))))
    (sc rfl ((op_and rfl (opd_tmp rfl) (opd_tmp rfl)))
    .nil)))))))))))))))))))))))))))
    (kc 0 rfl (kc 1 rfl (kc 2 rfl (kc 3 rfl (kc 7 rfl (kc 12 rfl (kc 41 rfl .nil))))))) (fun a5 w5 e5 st5 => ?_)
   refine then_normal ?_
   refine cond_split (c := 41) st5 rfl (fun h2 => ?_) (fun h2 => ?_)
   ·
    have ht := h2
    refine wp_seq ?_
    refine region_seg st5 (sc rfl ((op_assign rfl opd_bool))
     .nil)
     (kc 0 rfl (kc 1 rfl (kc 2 rfl (kc 3 rfl (kc 6 rfl (kc 7 rfl (kc 12 rfl (kc 41 rfl .nil)))))))) (fun a6 w6 e6 st6 => ?_)
    refine then_normal ?_
    refine wp_ret (blk_ret (thn_ret (thn_ret (blk_ret (thn_ret ?_)))))
    refine ret_dtM rfl (fun _ h => h) st6 (t := 6) rfl ?_
    rw [hasDir, any_hit (p := dirHit root p) hx ht]
    rfl
   ·
    have hf := h2
    refine wp_skip (blk_normal (then_normal ?_))
    refine region_seg st5 (sc rfl ((op_move rfl (opd_tmp rfl)))
     (sc rfl ((op_arI rfl (by decide) (opd_tmp rfl) opd_int (by simp only [arI]; omega)))
     (sc rfl ((op_assign rfl (opd_tmp rfl)))
     .nil)))
     (kc 0 rfl (kc 1 rfl (kc 2 rfl (kc 3 rfl (kc 7 rfl (kc 12 rfl (kc 41 rfl .nil))))))) (fun a7 w7 e7 st7 => ?_)
    refine then_normal ⟨k+1, ⟨st7.pick (kc 0 rfl (kc 1 rfl (kc 2 rfl (kc 3 rfl (kc 7 rfl .nil))))), by omega, any_next (p := dirHit root p) hx hq hf⟩, by omega⟩
  ·
   have hend := end_of h1
   refine wp_exit (thn_exit (thn_exit (exit_here ?_)))
   refine then_normal (wp_seq ?_)
   refine region_seg st4 (sc rfl ((op_move rfl (opd_tmp rfl)))
    (sc rfl ((op_eqS rfl (opd_tmp rfl) (opd_str (by decide))))
    (sc rfl ((op_assign rfl (opd_tmp rfl)))
    .nil)))
    (kc 0 rfl (kc 1 rfl (kc 2 rfl (kc 3 rfl (kc 6 rfl (kc 7 rfl (kc 12 rfl .nil))))))) (fun a8 w8 e8 st8 => ?_)
   refine then_normal (wp_ret ?_)
   refine ret_dtM rfl (fun _ h => h) st8 (t := 6) rfl ?_
   rw [hasDir, any_end hend hq]
   rfl
theorem spec_validPath_ok (l : List Int) : Fn Tryz.prog 52 [dt l] (dt (validPath l)) := by
 refine fn_of_wp (fn := Tryz.f52) Tryz.func52 rfl (of_decide_eq_true rfl) (fun M w0 a0 hm st0 => ?_)
 have hlen := st0.lenL (s := 0) rfl
 refine wp_seq ?_
 refine region_seg st0 (sc rfl ((op_assign rfl opd_bool))
  .nil)
  (kc 0 rfl (kc 2 rfl .nil)) (fun a1 w1 e1 st1 => ?_)
 refine then_normal (wp_seq (wp_seq ?_))
 refine region_seg st1 (sc rfl ((op_assign rfl opd_int))
  .nil)
  (kc 0 rfl (kc 2 rfl (kc 3 rfl .nil))) (fun a2 w2 e2 st2 => ?_)
 refine then_normal (wp_block ?_)
 refine loop_st (ι := Nat) (fun k a w => St (Frm.of w0) 27 M [(0, dt l), (3, dt (k : Int))] a w /\ k <= l.length /\ pathTo l k = true) (fun k => l.length - k) 0 ?_ ?_
 ·
  exact ⟨st2.pick (kc 0 rfl (kc 3 rfl .nil)), Nat.zero_le _, rfl⟩
 ·
  rintro k a3 w3 ⟨st3, hk, hp⟩
  refine wp_seq (wp_seq ?_)
  refine region_seg st3 (sc rfl ((op_move rfl (opd_tmp rfl)))
   (sc rfl ((op_move rfl (opd_tmp rfl)))
   (sc rfl ((op_lenL rfl (by kernel_rfl) (opd_tmp rfl)))
   (sc rfl ((op_cmpI rfl (by decide) (opd_tmp rfl) (opd_tmp rfl)))
   .nil))))
   (kc 0 rfl (kc 3 rfl (kc 7 rfl .nil))) (fun a4 w4 e4 st4 => ?_)
  refine then_normal ?_
  refine cond_split (c := 7) st4 rfl (fun h1 => ?_) (fun h1 => ?_)
  ·
   obtain ⟨x, hx⟩ := idx_of h1
   have hlt := lt_of_get hx
   refine wp_skip (then_normal (wp_seq (wp_block (wp_seq ?_))))
   refine region_any Tryz_mixed [[], [], [0, 1], [0, 1, 2], [0, 1, 2, 3], [0, 1, 2, 3, 4], [0, 1, 2, 3, 4, 5], [0, 1, 2, 3, 4, 5, 6], [0, 1, 2, 3, 4, 5, 6], [0, 1, 2, 3, 4, 5, 6, 7, 8], [0, 1, 2, 3, 4, 5, 6], [0, 1, 2, 3, 4, 5, 6], [0, 1, 2, 3, 4, 5, 6, 10, 11], [0, 1, 2, 3, 4, 5, 6, 10, 11, 12], [0, 1, 2, 3, 4, 5, 6, 7, 8, 9, 10, 11, 12, 13], [0, 1, 2, 3, 4, 5, 6, 7, 8, 9, 10, 11, 12, 13, 14], [0, 1, 2, 3, 4, 5, 6, 7, 8, 9, 10, 11, 12, 13, 14, 15]] [[(0, none)], [(3, none)], [(10, some 0), (11, some 1)], [(12, some 2)], [(13, some 3)], [(14, some 4)], [(15, some 5)], [(0, none), (16, some 6)], [(3, none), (16, some 6)], [(17, some 7), (18, some 8), (16, some 6)], [(0, none), (16, some 6)], [(3, none), (16, some 6)], [(20, some 10), (21, some 11), (16, some 6)], [(22, some 12), (16, some 6)], [(19, some 9), (23, some 13), (16, some 6)], [(24, some 14), (16, some 6)], [(16, some 6), (25, some 15)]] (by decide +kernel) st4 (D := [_, _, _, _, _, _, _, _, _, _, _, _, _, _, _, _, _])
    (.cons rfl (by decide) rfl (.plain rfl (op_move rfl (opd_tmp rfl)))
    (.cons rfl (by decide) rfl (.plain rfl (op_move rfl (opd_tmp rfl)))
    (.cons rfl (by decide) rfl (.plain rfl (op_indexE rfl (by kernel_rfl) (opd_tmp rfl) (opd_tmp rfl) rfl (by assumption)))
    (.cons rfl (by decide) rfl (.plain rfl (op_load rfl (by kernel_rfl) (opd_tmp rfl)))
    (.cons rfl (by decide) rfl (.plain rfl (op_call (l := [.tmp 13, .const (.int .i64 0), .const (.int .i64 2)]) rfl (by kernel_rfl) (.cons (opd_tmp rfl) (.cons opd_int (.cons opd_int .nil))) (spec_inRange_ok _ _ _)))
    (.cons rfl (by decide) rfl (.plain rfl (op_not rfl (opd_tmp rfl)))
    (.cons rfl (by decide) rfl (.plain rfl (op_move rfl (opd_tmp rfl)))
    (.cons rfl (by decide) rfl (.guarded rfl rfl (by decide) rfl dt_bv (fun hg => op_move rfl (opd_tmp rfl)))
    (.cons rfl (by decide) rfl (.guarded rfl rfl (by decide) rfl dt_bv (fun hg => op_move rfl (opd_tmp rfl)))
    (.cons rfl (by decide) rfl (.guarded rfl rfl (by decide) rfl dt_bv (fun hg => op_sliceHe rfl (by kernel_rfl) (opd_g hg rfl) (opd_g hg rfl) rfl (by omega)))
    (.cons rfl (by decide) rfl (.guarded rfl rfl (by decide) rfl dt_bv (fun hg => op_move rfl (opd_tmp rfl)))
    (.cons rfl (by decide) rfl (.guarded rfl rfl (by decide) rfl dt_bv (fun hg => op_move rfl (opd_tmp rfl)))
    (.cons rfl (by decide) rfl (.guarded rfl rfl (by decide) rfl dt_bv (fun hg => op_indexE rfl (by kernel_rfl) (opd_g hg rfl) (opd_g hg rfl) rfl (by assumption)))
    (.cons rfl (by decide) rfl (.guarded rfl rfl (by decide) rfl dt_bv (fun hg => op_load rfl (by kernel_rfl) (opd_g hg rfl)))
    (.cons rfl (by decide) rfl (.guarded rfl rfl (by decide) rfl dt_bv (fun hg => op_call (l := [.tmp 19, .tmp 23]) rfl (by kernel_rfl) (.cons (opd_g hg rfl) (.cons (opd_g hg rfl) .nil)) (spec_intAt_ok _ _)))
    (.cons rfl (by decide) rfl (.guarded rfl rfl (by decide) rfl dt_bv (fun hg => op_cmpI rfl (by decide) (opd_g hg rfl) opd_int))
    (.cons rfl (by decide) rfl (.plain rfl (op_or rfl (opd_tmp rfl) (opd_tmp rfl)))
    .nil)))))))))))))))))
    (kc 0 rfl (kc 3 rfl (kc 7 rfl (kc 26 rfl .nil)))) (fun a5 w5 e5 st5 => ?_)
   refine then_normal ?_
   refine cond_split (c := 26) st5 rfl (fun h2 => ?_) (fun h2 => ?_)
   ·
    have ht := h2
    refine wp_seq ?_
    refine region_seg st5 (sc rfl ((op_assign rfl opd_bool))
     .nil)
     (kc 0 rfl (kc 2 rfl (kc 3 rfl (kc 7 rfl (kc 26 rfl .nil))))) (fun a6 w6 e6 st6 => ?_)
    refine then_normal ?_
    refine wp_ret (blk_ret (thn_ret (thn_ret (blk_ret (thn_ret ?_)))))
    refine ret_dtM rfl (fun _ h => h) st6 (t := 2) rfl ?_
    exact (validPath_bad hx ht).symm
   ·
    have hf := h2
    refine wp_skip (blk_normal (then_normal ?_))
    refine region_seg st5 (sc rfl ((op_move rfl (opd_tmp rfl)))
     (sc rfl ((op_arI rfl (by decide) (opd_tmp rfl) opd_int (by simp only [arI]; omega)))
     (sc rfl ((op_assign rfl (opd_tmp rfl)))
     .nil)))
     (kc 0 rfl (kc 3 rfl (kc 7 rfl (kc 26 rfl .nil)))) (fun a7 w7 e7 st7 => ?_)
    refine then_normal ⟨k+1, ⟨st7.pick (kc 0 rfl (kc 3 rfl .nil)), by omega, pathTo_next hx hp hf⟩, by omega⟩
  ·
   have hend := end_of h1
   refine wp_exit (thn_exit (thn_exit (exit_here ?_)))
   refine then_normal (wp_seq ?_)
   refine region_seg st4 (sc rfl ((op_assign rfl opd_bool))
    .nil)
    (kc 0 rfl (kc 2 rfl (kc 3 rfl (kc 7 rfl .nil)))) (fun a8 w8 e8 st8 => ?_)
   refine then_normal (wp_ret ?_)
   refine ret_dtM rfl (fun _ h => h) st8 (t := 2) rfl ?_
   exact (validPath_end hend hk hp).symm
theorem spec_validTree_ok (t : Tree) (ht : smTree t) : Fn Tryz.prog 51 [dt t] (dt (validTree t)) := by
 refine fn_of_wp (fn := Tryz.f51) Tryz.func51 rfl (of_decide_eq_true rfl) (fun M w0 a0 hm st0 => ?_)
 have hlen := ht.1
 refine wp_seq ?_
 refine region_seg st0 (sc rfl ((op_box rfl (opd_tmp rfl)))
  (sc rfl ((op_assign rfl opd_bool))
  .nil))
  (kc 0 rfl (kc 1 rfl (kc 2 rfl .nil))) (fun a1 w1 e1 st1 => ?_)
 refine then_normal (wp_seq (wp_seq ?_))
 refine region_seg st1 (sc rfl ((op_assign rfl opd_int))
  .nil)
  (kc 0 rfl (kc 1 rfl (kc 2 rfl (kc 3 rfl .nil)))) (fun a2 w2 e2 st2 => ?_)
 refine then_normal (wp_block ?_)
 refine loop_st (ι := Nat) (fun k a w => St (Frm.of w0) 33 M [(0, dt t), (1, dptr t), (3, dt (k : Int))] a w /\ k <= t.files.length /\ treeTo t.files k = true) (fun k => t.files.length - k) 0 ?_ ?_
 ·
  exact ⟨st2.pick (kc 0 rfl (kc 1 rfl (kc 3 rfl .nil))), Nat.zero_le _, rfl⟩
 ·
  rintro k a3 w3 ⟨st3, hk, hp⟩
  refine wp_seq (wp_seq ?_)
  refine region_seg st3 (sc rfl ((op_move rfl (opd_tmp rfl)))
   (sc rfl ((op_field Tree.fld0 rfl (by kernel_rfl) (opd_tmp rfl)))
   (sc rfl ((op_load rfl (by kernel_rfl) (opd_tmp rfl)))
   (sc rfl ((op_lenL rfl (by kernel_rfl) (opd_tmp rfl)))
   (sc rfl ((op_cmpI rfl (by decide) (opd_tmp rfl) (opd_tmp rfl)))
   .nil)))))
   (kc 0 rfl (kc 1 rfl (kc 3 rfl (kc 8 rfl .nil)))) (fun a4 w4 e4 st4 => ?_)
  refine then_normal ?_
  refine cond_split (c := 8) st4 rfl (fun h1 => ?_) (fun h1 => ?_)
  ·
   obtain ⟨x, hx⟩ := idx_of h1
   have hlt := lt_of_get hx
   refine wp_skip (then_normal (wp_seq (wp_block (wp_seq ?_))))
   refine region_any Tryz_mixed [[], [0], [], [0, 1, 2], [0, 1, 2, 3], [0, 1, 2, 3, 4], [0, 1, 2, 3, 4, 5], [0, 1, 2, 3, 4, 5, 6], [0, 1, 2, 3, 4, 5, 6, 7], [0, 1, 2, 3, 4, 5, 6, 7], [0, 1, 2, 3, 4, 5, 6, 7, 9], [0, 1, 2, 3, 4, 5, 6, 7], [0, 1, 2, 3, 4, 5, 6, 7, 9, 10, 11], [0, 1, 2, 3, 4, 5, 6, 7, 9, 10, 11, 12], [0, 1, 2, 3, 4, 5, 6, 7, 8, 9, 10, 11, 12, 13], [0, 1, 2, 3, 4, 5, 6, 7], [0, 1, 2, 3, 4, 5, 6, 7, 8, 9, 10, 11, 12, 13, 14, 15], [0, 1, 2, 3, 4, 5, 6, 7, 8, 9, 10, 11, 12, 13, 14, 15, 16]] [[(1, none)], [(11, some 0)], [(3, none)], [(12, some 1), (13, some 2)], [(14, some 3)], [(15, some 4)], [(16, some 5)], [(17, some 6)], [(1, none), (18, some 7)], [(1, none), (18, some 7)], [(20, some 9), (18, some 7)], [(3, none), (18, some 7)], [(21, some 10), (22, some 11), (18, some 7)], [(23, some 12), (18, some 7)], [(19, some 8), (24, some 13), (18, some 7)], [(3, none), (18, some 7)], [(25, some 14), (26, some 15), (18, some 7)], [(18, some 7), (27, some 16)]] (by decide +kernel) st4 (D := [_, _, _, _, _, _, _, _, _, _, _, _, _, _, _, _, _, _])
    (.cons rfl (by decide) rfl (.plain rfl (op_field Tree.fld0 rfl (by kernel_rfl) (opd_tmp rfl)))
    (.cons rfl (by decide) rfl (.plain rfl (op_load rfl (by kernel_rfl) (opd_tmp rfl)))
    (.cons rfl (by decide) rfl (.plain rfl (op_move rfl (opd_tmp rfl)))
    (.cons rfl (by decide) rfl (.plain rfl (op_indexE rfl (by kernel_rfl) (opd_tmp rfl) (opd_tmp rfl) rfl (by assumption)))
    (.cons rfl (by decide) rfl (.plain rfl (op_load rfl (by kernel_rfl) (opd_tmp rfl)))
    (.cons rfl (by decide) rfl (.plain rfl (op_call (l := [.tmp 15]) rfl (by kernel_rfl) (.cons (opd_tmp rfl) .nil) (spec_validFile_ok _ (ht.2 _ (List.mem_of_getElem? hx)))))
    (.cons rfl (by decide) rfl (.plain rfl (op_not rfl (opd_tmp rfl)))
    (.cons rfl (by decide) rfl (.plain rfl (op_move rfl (opd_tmp rfl)))
    (.cons rfl (by decide) rfl (.guarded rfl rfl (by decide) rfl dt_bv (fun hg => op_load rfl (by kernel_rfl) (opd_tmp rfl)))
    (.cons rfl (by decide) rfl (.guarded rfl rfl (by decide) rfl dt_bv (fun hg => op_field Tree.fld0 rfl (by kernel_rfl) (opd_tmp rfl)))
    (.cons rfl (by decide) rfl (.guarded rfl rfl (by decide) rfl dt_bv (fun hg => op_load rfl (by kernel_rfl) (opd_g hg rfl)))
    (.cons rfl (by decide) rfl (.guarded rfl rfl (by decide) rfl dt_bv (fun hg => op_move rfl (opd_tmp rfl)))
    (.cons rfl (by decide) rfl (.guarded rfl rfl (by decide) rfl dt_bv (fun hg => op_indexE rfl (by kernel_rfl) (opd_g hg rfl) (opd_g hg rfl) rfl (by assumption)))
    (.cons rfl (by decide) rfl (.guarded rfl rfl (by decide) rfl dt_bv (fun hg => op_load rfl (by kernel_rfl) (opd_g hg rfl)))
    (.cons rfl (by decide) rfl (.guarded rfl rfl (by decide) rfl dt_bv (fun hg => op_call (l := [.tmp 19, .tmp 24]) rfl (by kernel_rfl) (.cons (opd_g hg rfl) (.cons (opd_g hg rfl) .nil)) (spec_fileAt_ok _ _)))
    (.cons rfl (by decide) rfl (.guarded rfl rfl (by decide) rfl dt_bv (fun hg => op_move rfl (opd_tmp rfl)))
    (.cons rfl (by decide) rfl (.guarded rfl rfl (by decide) rfl dt_bv (fun hg => op_cmpI rfl (by decide) (opd_g hg rfl) (opd_g hg rfl)))
    (.cons rfl (by decide) rfl (.plain rfl (op_or rfl (opd_tmp rfl) (opd_tmp rfl)))
    .nil))))))))))))))))))
    (kc 0 rfl (kc 1 rfl (kc 3 rfl (kc 8 rfl (kc 28 rfl .nil))))) (fun a5 w5 e5 st5 => ?_)
   refine then_normal ?_
   refine cond_split (c := 28) st5 rfl (fun h2 => ?_) (fun h2 => ?_)
   ·
    have hq := h2
    refine wp_seq ?_
    refine region_seg st5 (sc rfl ((op_assign rfl opd_bool))
     .nil)
     (kc 0 rfl (kc 1 rfl (kc 2 rfl (kc 3 rfl (kc 8 rfl (kc 28 rfl .nil)))))) (fun a6 w6 e6 st6 => ?_)
    refine then_normal ?_
    refine wp_ret (blk_ret (thn_ret (thn_ret (blk_ret (thn_ret ?_)))))
    refine ret_dtM rfl (fun _ h => h) st6 (t := 2) rfl ?_
    exact (validTree_bad hx hq).symm
   ·
    have hf := h2
    refine wp_skip (blk_normal (then_normal ?_))
    refine region_seg st5 (sc rfl ((op_move rfl (opd_tmp rfl)))
     (sc rfl ((op_arI rfl (by decide) (opd_tmp rfl) opd_int (by simp only [arI]; omega)))
     (sc rfl ((op_assign rfl (opd_tmp rfl)))
     .nil)))
     (kc 0 rfl (kc 1 rfl (kc 3 rfl (kc 8 rfl (kc 28 rfl .nil))))) (fun a7 w7 e7 st7 => ?_)
    refine then_normal ⟨k+1, ⟨st7.pick (kc 0 rfl (kc 1 rfl (kc 3 rfl .nil))), by omega, treeTo_next hx hp hf⟩, by omega⟩
  ·
   have hend := end_of h1
   refine wp_exit (thn_exit (thn_exit (exit_here ?_)))
   refine then_normal (wp_seq ?_)
   refine region_seg st4 (sc rfl ((op_field Tree.fld0 rfl (by kernel_rfl) (opd_tmp rfl)))
    (sc rfl ((op_load rfl (by kernel_rfl) (opd_tmp rfl)))
    (sc rfl ((op_lenL rfl (by kernel_rfl) (opd_tmp rfl)))
    (sc rfl ((op_cmpI rfl (by decide) (opd_tmp rfl) opd_int))
    (sc rfl ((op_assign rfl (opd_tmp rfl)))
    .nil)))))
    (kc 0 rfl (kc 1 rfl (kc 2 rfl (kc 3 rfl (kc 8 rfl .nil))))) (fun a8 w8 e8 st8 => ?_)
   refine then_normal (wp_ret ?_)
   refine ret_dtM rfl (fun _ h => h) st8 (t := 2) rfl ?_
   exact (validTree_end hend hk hp)
end Go.Proofs.YtbnibckkfknpkaaGreatDoor
namespace Go.Proofs.YtbnibckkfknpkaaGreatDoor
open Go.RowKit
set_option maxRecDepth 10000
theorem spec_insertText_ok (xs : List Str) (s : Str) (hx : xs.length <= 8796093022200) : FnTake Tryz.prog 65 9 (xs) [dt s] (insertT xs s) := by
 refine take_of_wp (fn := Tryz.f65) Tryz.func65 rfl (of_decide_eq_true rfl) (fun M g w0 a0 htip hm st0 => ?_)
 refine wp_seq ?_
 refine region_seg st0 (sc rfl ((op_assign rfl (opd_nil (α := Str))))
  .nil)
  (kc 0 rfl (kc 1 rfl (kc 4 rfl .nil))) (fun a1 w1 e1 st1 => ?_)
 refine then_normal (wp_seq (wp_seq ?_))
 refine region_seg st1 (sc rfl ((op_move rfl (opd_tmp rfl)))
  (sc rfl ((op_move rfl (opd_tmp rfl)))
  (sc rfl ((op_callT (M0 := M) (l := [.tmp 7, .tmp 8]) (fun _ h => .inl h) rfl (by kernel_rfl) (.cons (opd2_tip (fun _ h => .inl h) htip (opd_tmp rfl)) (.cons (opd2_of (fun _ h => .inl h) (opd_tmp rfl)) .nil)) (spec_hasText_ok _ _) flat_bool))
  .nil)))
  (kc 0 rfl (kc 1 rfl (kc 4 rfl (kc 9 rfl .nil)))) (fun a2 w2 e2 st2 => ?_)
 refine then_normal ?_
 refine cond_split (c := 9) st2 rfl (fun h1 => ?_) (fun h1 => ?_)
 ·
  have hin := h1
  refine wp_seq ?_
  refine region_seg st2 (sc rfl ((op_move rfl (opd_tmp rfl)))
   (sc rfl ((op_assign rfl (opd_tmp rfl)))
   .nil))
   (kc 0 rfl (kc 1 rfl (kc 4 rfl (kc 9 rfl .nil)))) (fun a3 w3 e3 st3 => ?_)
  refine then_normal ?_
  refine wp_ret (thn_ret ?_)
  refine ret_take rfl rfl htip (fun _ h => h) st3 (t := 4) rfl ?_
  rw [insertT, if_pos hin]
 ·
  have hin := h1
  refine wp_skip (then_normal (wp_seq ?_))
  refine region_seg st2 (sc rfl ((op_move rfl (opd_tmp rfl)))
   (sc rfl ((op_lenT rfl (by kernel_rfl) (opd_tmp rfl)))
   (sc rfl ((op_assign rfl (opd_tmp rfl)))
   .nil)))
   (kc 0 rfl (kc 1 rfl (kc 4 rfl (kc 5 rfl (kc 9 rfl .nil))))) (fun a4 w4 e4 st4 => ?_)
  refine then_normal (wp_seq (wp_block ?_))
  refine loop_st (ι := Nat) (fun k a w => St (Frm.take w0 g) 39 (insO g M) [(0, dtip g 9 (xs)), (1, dt s), (5, dt (k : Int))] a w /\ k <= xs.length /\ insPos xs s k = insPos xs s xs.length) (fun k => k) xs.length ?_ ?_
  ·
   exact ⟨st4.pick (kc 0 rfl (kc 1 rfl (kc 5 rfl .nil))), Nat.le_refl _, rfl⟩
  ·
   rintro k a5 w5 ⟨st5, hk, hp⟩
   obtain ⟨y, hy⟩ := insGet hk
   refine wp_seq (wp_seq ?_)
   refine region_seg st5 (sc rfl ((op_move rfl (opd_tmp rfl)))
    (sc rfl ((op_cmpI rfl (by decide) (opd_tmp rfl) opd_int))
    (sc rfl ((op_move rfl (opd_tmp rfl)))
    (.cons rfl (by decide) (.guarded rfl rfl (by decide) rfl dt_bv (fun hg => op_move rfl (opd_tmp rfl)))
    (.cons rfl (by decide) (.guarded rfl rfl (by decide) rfl dt_bv (fun hg => op_move rfl (opd_tmp rfl)))
    (.cons rfl (by decide) (.guarded rfl rfl (by decide) rfl dt_bv (fun hg => op_arI rfl (by decide) (opd_g hg rfl) opd_int (by simp only [arI]; omega)))
    (.cons rfl (by decide) (.guarded rfl rfl (by decide) rfl dt_bv (fun hg => op_indexTipE rfl (by kernel_rfl) (opd_g hg rfl) (opd_g hg rfl) (k := k - 1) (by have := gtz' hg; simp only [arI]; omega) (hy (gtz' hg))))
    (.cons rfl (by decide) (.guarded rfl rfl (by decide) rfl dt_bv (fun hg => op_loadBox rfl (by kernel_rfl) (opd_g hg rfl)))
    (.cons rfl (by decide) (.guarded rfl rfl (by decide) rfl dt_bv (fun hg => op_move rfl (opd_tmp rfl)))
    (.cons rfl (by decide) (.guarded rfl rfl (by decide) rfl dt_bv (fun hg => op_cmpS rfl (by decide) (opd_g hg rfl) (opd_g hg rfl)))
    (sc rfl ((op_and rfl (opd_tmp rfl) (opd_tmp rfl)))
    .nil)))))))))))
    (kc 0 rfl (kc 1 rfl (kc 5 rfl (kc 23 rfl .nil)))) (fun a6 w6 e6 st6 => ?_)
   refine then_normal ?_
   refine cond_split (c := 23) st6 rfl (fun h2 => ?_) (fun h2 => ?_)
   ·
    have htk := h2
    refine wp_skip (then_normal (wp_block ?_))
    refine region_seg st6 (sc rfl ((op_move rfl (opd_tmp rfl)))
     (sc rfl ((op_arI rfl (by decide) (opd_tmp rfl) opd_int (by simp only [arI]; omega)))
     (sc rfl ((op_assign rfl (opd_tmp rfl)))
     .nil)))
     (kc 0 rfl (kc 1 rfl (kc 5 rfl (kc 23 rfl .nil)))) (fun a7 w7 e7 st7 => ?_)
    refine blk_normal ?_
    refine then_normal ⟨k - 1, ⟨?_, by omega, (insPos_down hy htk).trans hp⟩, by have := gtz htk; omega⟩
    rw [show ((k - 1 : Nat) : Int) = arI .sub k 1 from by have := gtz htk; simp only [arI]; omega]
    exact st7.pick (kc 0 rfl (kc 1 rfl (kc 5 rfl .nil)))
   ·
    have hend := h2
    refine wp_exit (thn_exit (thn_exit (exit_here ?_)))
    refine then_normal (wp_seq (wp_region_list ?_))
    refine seg_n 4 st6.ins0 (sc rfl ((op_lit0 (α := Str) (e := 9) rfl (by kernel_rfl))) (sc rfl ((op_move rfl (opd_tmp rfl))) (sc rfl ((op_move rfl (opd_tmp rfl))) (sc rfl ((op_sliceLT rfl (by kernel_rfl) (opd_tmp rfl) (opd_tmp rfl) rfl (by assumption))) .nil)))) (kc 0 rfl (kc 1 rfl (kc 5 rfl (kc 26 rfl (kc 29 rfl .nil))))) (fun a50 w50 e50 st50 => ?_)
    refine wpl_append (bytes := 16) st50 rfl rfl rfl (by decide) (by kernel_rfl) rfl rfl row_row (by simp; omega) (by simp; omega) (.cons (s := 0) rfl off_none (.cons (s := 1) rfl (fun _ _ h => h) (.cons (s := 5) rfl (fun _ _ h => h) .nil))) TipOK.none_ (fun g51 a51 w51 hg51 st51 => ?_)
    refine seg_n 1 st51 (sc rfl ((op_assign rfl (opd_tmp rfl))) .nil) (kc 0 rfl (kc 1 rfl (kc 5 rfl (kc 6 rfl .nil)))) (fun a52 w52 e52 st52 => ?_)
    refine wpList_nil (then_normal (wp_seq ?_))
    have st53 := st52.congr (swap_tip (g := g) (g2 := g51) (M := M))
    refine wp_region_list ?_
    refine seg_n 5 st53 (sc rfl ((op_move rfl (opd_tmp rfl))) (sc rfl ((op_move rfl (opd_tmp rfl))) (sc rfl ((op_sliceHT rfl (by kernel_rfl) (opd_tmp rfl) (opd_tmp rfl) rfl (by assumption))) (sc rfl ((op_move rfl (opd_tmp rfl))) (sc rfl ((op_lit (opds := [.tmp 34]) rfl (by kernel_rfl) (by kernel_rfl) rfl rfl (by decide) (.cons (opd_tmp rfl) .nil))) .nil))))) (kc 1 rfl (kc 6 rfl (kc 33 rfl (kc 35 rfl .nil)))) (fun a54 w54 e54 st54 => ?_)
    refine wpl_append (bytes := 16) st54 rfl rfl rfl (by decide) (by kernel_rfl) rfl rfl row_dt (by simp; omega) (by simp; omega) (.cons (s := 1) rfl (fun _ _ h => h) (.cons (s := 6) rfl (own_apart hg51) .nil)) (htip.apart hg51) (fun g55 a55 w55 hg55 st55 => ?_)
    refine seg_n 1 st55 (sc rfl ((op_move rfl (opd_tmp rfl))) .nil) (kc 36 rfl (kc 37 rfl .nil)) (fun a56 w56 e56 st56 => ?_)
    refine wpl_append (bytes := 16) st56 rfl rfl rfl (by decide) (by kernel_rfl) rfl rfl row_tip (by simp; omega) (by simp; omega) .nil hg55 (fun g57 a57 w57 hg57 st57 => ?_)
    refine seg_n 1 st57 (sc rfl ((op_assign rfl (opd_tmp rfl))) .nil) (kc 4 rfl .nil) (fun a58 w58 e58 st58 => ?_)
    refine wpList_nil (then_normal (wp_ret ?_))
    refine ret_take rfl rfl hg57 (fun _ h => h.imp .inl id) st58 (t := 4) rfl ?_
    rw [insertT, if_neg (by rw [hin]; decide), ← hp, insPos_stop hy hend]
    simp
end Go.Proofs.YtbnibckkfknpkaaGreatDoor
namespace Go.Proofs.YtbnibckkfknpkaaGreatDoor
open Go.RowKit
set_option maxRecDepth 10000
theorem spec_findIn_ok (t : Tree) (roots : List Int) (p s : Str) (hr : roots.length <= 1099511627776) (hp : p.l.length + s.l.length <= 1152921504606846975) : Fn Tryz.prog 105 [dt t, dt roots, dt p, dt s] (dt (findIn t.files roots p s)) := by
 refine fn_of_wp (fn := Tryz.f105) Tryz.func105 rfl (of_decide_eq_true rfl) (fun M w0 a0 hm st0 => ?_)
 refine wp_seq (wp_region_list ?_)
 refine seg_n 1 st0 (sc rfl ((op_box rfl (opd_tmp rfl)))
  .nil)
  (kc 0 rfl (kc 1 rfl (kc 2 rfl (kc 3 rfl (kc 4 rfl .nil))))) (fun a1 w1 e1 st1 => ?_)
 refine wpl_alloc (n := 3) st1 rfl rfl rfl (by decide) (by kernel_rfl) (kc 0 rfl (kc 1 rfl (kc 2 rfl (kc 3 rfl (kc 4 rfl .nil))))) (fun b2 a2 w2 hb2 hn2 e2 st2 => ?_)
 refine wpList_nil (then_normal (wp_seq ?_))
 refine region_seg st2 (sc rfl ((op_lit0 (α := Int) (e := 3) rfl (by kernel_rfl)))
  (sc rfl ((op_assign rfl (opd_tmp rfl)))
  .nil))
  (kc 0 rfl (kc 1 rfl (kc 2 rfl (kc 3 rfl (kc 4 rfl (kc 8 rfl (kc 9 rfl .nil))))))) (fun a3 w3 e3 st3 => ?_)
 refine then_normal (wp_seq (wp_seq ?_))
 refine region_seg st3 (sc rfl ((op_assign rfl opd_int))
  .nil)
  (kc 0 rfl (kc 1 rfl (kc 2 rfl (kc 3 rfl (kc 4 rfl (kc 8 rfl (kc 9 rfl (kc 10 rfl .nil)))))))) (fun a4 w4 e4 st4 => ?_)
 refine then_normal (wp_block ?_)
 refine loop_st (ι := Nat × List Int) (fun i a w => ∃ g, TipOK (Frm.of w0) (insO (some b2) M) g /\ St (Frm.of w0) 80 (insO g (insO (some b2) M)) [(0, dt t), (1, dt roots), (2, dt p), (3, dt s), (4, dptr t), (8, draw (some b2) 3), (9, dtip g 3 i.2), (10, dt (i.1 : Int))] a w /\ i.1 <= roots.length /\ i.2.length <= i.1 /\ findRun t.files p s i.2 (roots.drop i.1) = findRun t.files p s [] roots) (fun i => roots.length - i.1) (0, []) ?_ ?_
 ·
  exact ⟨none, TipOK.none_, st4.ins0.pick (kc 0 rfl (kc 1 rfl (kc 2 rfl (kc 3 rfl (kc 4 rfl (kc 8 rfl (kc 9 rfl (kc 10 rfl .nil)))))))), Nat.zero_le _, Nat.zero_le _, rfl⟩
 ·
  rintro ⟨k, acc⟩ a5 w5 ⟨g5, hg5, st5, hk, ha, hrun⟩
  dsimp only at *
  refine wp_seq (wp_seq ?_)
  refine region_seg st5 (sc rfl ((op_move rfl (opd_tmp rfl)))
   (sc rfl ((op_move rfl (opd_tmp rfl)))
   (sc rfl ((op_lenL rfl (by kernel_rfl) (opd_tmp rfl)))
   (sc rfl ((op_cmpI rfl (by decide) (opd_tmp rfl) (opd_tmp rfl)))
   .nil))))
   (kc 0 rfl (kc 1 rfl (kc 2 rfl (kc 3 rfl (kc 4 rfl (kc 8 rfl (kc 9 rfl (kc 10 rfl (kc 18 rfl .nil))))))))) (fun a6 w6 e6 st6 => ?_)
  refine then_normal ?_
  refine cond_split (c := 18) st6 rfl (fun h1 => ?_) (fun h1 => ?_)
  ·
   obtain ⟨x, hx⟩ := idx_of h1
   have hlt := lt_of_get hx
   refine wp_skip (then_normal (wp_seq (wp_block (wp_seq ?_))))
   refine region_any Tryz_mixed [[], [], [], [1, 2], [1, 2, 3], [], [], [5, 6], [0, 1, 2, 3, 4, 5, 6, 7], [0, 1, 2, 3, 4, 5, 6, 7, 8]] [[(4, none)], [(1, none)], [(10, none)], [(22, some 1), (23, some 2)], [(24, some 3)], [(2, none)], [(3, none)], [(26, some 5), (27, some 6)], [(21, some 0), (25, some 4), (28, some 7)], [(29, some 8)]] (by decide +kernel) st6 (D := [_, _, _, _, _, _, _, _, _, _])
    (.cons rfl (by decide) rfl (.plain rfl (op_load rfl (by kernel_rfl) (opd_tmp rfl)))
    (.cons rfl (by decide) rfl (.plain rfl (op_move rfl (opd_tmp rfl)))
    (.cons rfl (by decide) rfl (.plain rfl (op_move rfl (opd_tmp rfl)))
    (.cons rfl (by decide) rfl (.plain rfl (op_indexE rfl (by kernel_rfl) (opd_tmp rfl) (opd_tmp rfl) rfl (by assumption)))
    (.cons rfl (by decide) rfl (.plain rfl (op_load rfl (by kernel_rfl) (opd_tmp rfl)))
    (.cons rfl (by decide) rfl (.plain rfl (op_move rfl (opd_tmp rfl)))
    (.cons rfl (by decide) rfl (.plain rfl (op_move rfl (opd_tmp rfl)))
    (.cons rfl (by decide) rfl (.plain rfl (op_call (l := [.tmp 26, .tmp 27]) rfl (by kernel_rfl) (.cons (opd_tmp rfl) (.cons (opd_tmp rfl) .nil)) (spec_child_ok _ _ (by omega))))
    (.cons rfl (by decide) rfl (.plain rfl (op_call (l := [.tmp 21, .tmp 25, .tmp 28]) rfl (by kernel_rfl) (.cons (opd_tmp rfl) (.cons (opd_tmp rfl) (.cons (opd_tmp rfl) .nil))) (spec_hasDir_ok _ _ _ (child_le hp))))
    (.cons rfl (by decide) rfl (.plain rfl (op_assign rfl (opd_tmp rfl)))
    .nil))))))))))
    (kc 0 rfl (kc 1 rfl (kc 2 rfl (kc 3 rfl (kc 4 rfl (kc 8 rfl (kc 9 rfl (kc 10 rfl (kc 11 rfl (kc 18 rfl .nil)))))))))) (fun a7 w7 e7 st7 => ?_)
   refine then_normal (wp_seq ?_)
   refine region_any Tryz_mixed [[], [], [], [1, 2], [1, 2, 3], [], [], [5, 6], [1, 2, 3, 4, 5, 6, 7], [0, 1, 2, 3, 4, 5, 6, 7, 8], [0, 1, 2, 3, 4, 5, 6, 7, 8, 9]] [[(4, none)], [(1, none)], [(10, none)], [(31, some 1), (32, some 2)], [(33, some 3)], [(2, none)], [(3, none)], [(35, some 5), (36, some 6)], [(34, some 4), (37, some 7)], [(30, some 0), (38, some 8)], [(39, some 9)]] (by decide +kernel) st7 (D := [_, _, _, _, _, _, _, _, _, _, _])
    (.cons rfl (by decide) rfl (.plain rfl (op_load rfl (by kernel_rfl) (opd_tmp rfl)))
    (.cons rfl (by decide) rfl (.plain rfl (op_move rfl (opd_tmp rfl)))
    (.cons rfl (by decide) rfl (.plain rfl (op_move rfl (opd_tmp rfl)))
    (.cons rfl (by decide) rfl (.plain rfl (op_indexE rfl (by kernel_rfl) (opd_tmp rfl) (opd_tmp rfl) rfl (by assumption)))
    (.cons rfl (by decide) rfl (.plain rfl (op_load rfl (by kernel_rfl) (opd_tmp rfl)))
    (.cons rfl (by decide) rfl (.plain rfl (op_move rfl (opd_tmp rfl)))
    (.cons rfl (by decide) rfl (.plain rfl (op_move rfl (opd_tmp rfl)))
    (.cons rfl (by decide) rfl (.plain rfl (op_call (l := [.tmp 35, .tmp 36]) rfl (by kernel_rfl) (.cons (opd_tmp rfl) (.cons (opd_tmp rfl) .nil)) (spec_child_ok _ _ (by omega))))
    (.cons rfl (by decide) rfl (.plain rfl (op_build (parts := [(0, .tmp 34), (1, .tmp 37), (3, .const (.bool true))]) (ns := [1, 1, 1, 1, 1, 1]) (zs := [[.int .i64 0], [.string ⟨⟨[]⟩⟩], [.string ⟨⟨[]⟩⟩], [.bool false], [.int .i64 0], [.slice none 0 0]]) rfl rfl (by kernel_rfl) (by kernel_rfl) (fun w a hl => by
    intro p hp
    simp only [List.mem_cons, List.not_mem_nil, or_false] at hp
    rcases hp with rfl | rfl | rfl
    ·
     exact ⟨by decide, Rep.len (α := Int) (OpdR.cells (opd_tmp rfl) hl)⟩
    ·
     exact ⟨by decide, Rep.len (α := Str) (OpdR.cells (opd_tmp rfl) hl)⟩
    ·
     exact ⟨by decide, rfl⟩) (fun w a hl => File.parts (x := ⟨x, child p s, ⟨[]⟩, true, 0, []⟩) (OpdR.cells (opd_tmp rfl) hl) (OpdR.cells (opd_tmp rfl) hl) zero_str (OpdR.cells opd_bool hl) ⟨rfl, trivial⟩ zero_list)))
    (.cons rfl (by decide) rfl (.plain rfl (op_call (l := [.tmp 30, .tmp 38]) rfl (by kernel_rfl) (.cons (opd_tmp rfl) (.cons (opd_tmp rfl) .nil)) (spec_fileAt_ok _ _)))
    (.cons rfl (by decide) rfl (.plain rfl (op_assign rfl (opd_tmp rfl)))
    .nil)))))))))))
    (kc 0 rfl (kc 1 rfl (kc 2 rfl (kc 3 rfl (kc 4 rfl (kc 8 rfl (kc 9 rfl (kc 10 rfl (kc 11 rfl (kc 12 rfl (kc 18 rfl .nil))))))))))) (fun a8 w8 e8 st8 => ?_)
   refine then_normal (wp_seq (wp_seq ?_))
   refine region_seg st8 (sc rfl ((op_move rfl (opd_tmp rfl)))
    (sc rfl ((op_move rfl (opd_tmp rfl)))
    (.cons rfl (by decide) (.guarded rfl rfl (by decide) rfl dt_bv (fun hg => op_move rfl (opd_tmp rfl)))
    (.cons rfl (by decide) (.guarded rfl rfl (by decide) rfl dt_bv (fun hg => op_cmpI rfl (by decide) (opd_g hg rfl) opd_int))
    (sc rfl ((op_and rfl (opd_tmp rfl) (opd_tmp rfl)))
    .nil)))))
    (kc 0 rfl (kc 1 rfl (kc 2 rfl (kc 3 rfl (kc 4 rfl (kc 8 rfl (kc 9 rfl (kc 10 rfl (kc 11 rfl (kc 12 rfl (kc 18 rfl (kc 44 rfl .nil)))))))))))) (fun a9 w9 e9 st9 => ?_)
   refine then_normal ?_
   refine cond_split (c := 44) st9 rfl (fun h2 => ?_) (fun h2 => ?_)
   ·
    have q1 := h2
    refine wp_seq (wp_region_list ?_)
    refine seg_n 7 st9 (sc rfl ((op_move rfl (opd_tmp rfl)))
     (sc rfl ((op_move rfl (opd_tmp rfl)))
     (sc rfl ((op_move rfl (opd_tmp rfl)))
     (sc rfl ((op_indexE rfl (by kernel_rfl) (opd_tmp rfl) (opd_tmp rfl) rfl (by assumption)))
     (sc rfl ((op_load rfl (by kernel_rfl) (opd_tmp rfl)))
     (sc rfl ((op_lit (opds := [.tmp 49]) rfl (by kernel_rfl) (by kernel_rfl) rfl rfl (by decide) (.cons (opd_tmp rfl) .nil)))
     (sc rfl ((op_build (parts := [(0, .const (.int .i64 2)), (1, .tmp 45), (2, .tmp 50)]) (ns := [1, 1, 1]) (zs := [[.int .i64 0], [.int .i64 0], [.slice none 0 0]]) rfl rfl (by kernel_rfl) (by kernel_rfl) (fun w a hl => by
    intro p hp
    simp only [List.mem_cons, List.not_mem_nil, or_false] at hp
    rcases hp with rfl | rfl | rfl
    ·
     exact ⟨by decide, rfl⟩
    ·
     exact ⟨by decide, Rep.len (α := Int) (OpdR.cells (opd_tmp rfl) hl)⟩
    ·
     exact ⟨by decide, Rep.len (α := (List Int)) (OpdR.cells (opd_tmp rfl) hl)⟩) (fun w a hl => Spec.parts (x := ⟨2, fileAt t.files ⟨x, child p s, ⟨[]⟩, true, 0, []⟩, [x]⟩) (OpdR.cells opd_int hl) (OpdR.cells (opd_tmp rfl) hl) (OpdR.cells (opd_tmp rfl) hl))))
     .nil)))))))
     (kc 0 rfl (kc 1 rfl (kc 2 rfl (kc 3 rfl (kc 4 rfl (kc 8 rfl (kc 9 rfl (kc 10 rfl (kc 11 rfl (kc 12 rfl (kc 18 rfl (kc 44 rfl (kc 51 rfl .nil))))))))))))) (fun a10 w10 e10 st10 => ?_)
    refine wpl_storeNew st10 rfl rfl rfl (by kernel_rfl) rfl hb2 (.inl (.inr rfl)) rfl (opd_tmp rfl) (.cons (s := 0) rfl (fun _ _ h => h) (.cons (s := 1) rfl (fun _ _ h => h) (.cons (s := 2) rfl (fun _ _ h => h) (.cons (s := 3) rfl (fun _ _ h => h) (.cons (s := 4) rfl (fun _ _ h => h) (.cons (s := 9) rfl (tip_off hg5 (.inr rfl)) (.cons (s := 10) rfl (fun _ _ h => h) (.cons (s := 11) rfl (fun _ _ h => h) (.cons (s := 12) rfl (fun _ _ h => h) (.cons (s := 18) rfl (fun _ _ h => h) (.cons (s := 44) rfl (fun _ _ h => h) .nil))))))))))) (fun w11 st11 => ?_)
    refine wpList_nil (then_normal ?_)
    refine wp_ret (thn_ret (blk_ret (thn_ret (thn_ret (blk_ret (thn_ret ?_))))))
    refine ret_box rfl (by kernel_rfl) st11 (t := 8) rfl (fun _ h => (.inl (.inl h))) ?_
    rw [findIn, ← hrun, drop_at hx, findRun, if_pos q1]
   ·
    have q1 := h2
    refine wp_skip (then_normal (wp_seq ?_))
    refine region_any Tryz_mixed [[], [], [], [1, 2], [1, 2, 3], [], [], [1, 2, 3, 4, 5, 6], [0, 1, 2, 3, 4, 5, 6, 7], [0, 1, 2, 3, 4, 5, 6, 7, 8]] [[(4, none)], [(1, none)], [(10, none)], [(53, some 1), (54, some 2)], [(55, some 3)], [(2, none)], [(3, none)], [(56, some 4), (57, some 5), (58, some 6)], [(52, some 0), (59, some 7)], [(60, some 8)]] (by decide +kernel) st9 (D := [_, _, _, _, _, _, _, _, _, _])
     (.cons rfl (by decide) rfl (.plain rfl (op_load rfl (by kernel_rfl) (opd_tmp rfl)))
     (.cons rfl (by decide) rfl (.plain rfl (op_move rfl (opd_tmp rfl)))
     (.cons rfl (by decide) rfl (.plain rfl (op_move rfl (opd_tmp rfl)))
     (.cons rfl (by decide) rfl (.plain rfl (op_indexE rfl (by kernel_rfl) (opd_tmp rfl) (opd_tmp rfl) rfl (by assumption)))
     (.cons rfl (by decide) rfl (.plain rfl (op_load rfl (by kernel_rfl) (opd_tmp rfl)))
     (.cons rfl (by decide) rfl (.plain rfl (op_move rfl (opd_tmp rfl)))
     (.cons rfl (by decide) rfl (.plain rfl (op_move rfl (opd_tmp rfl)))
     (.cons rfl (by decide) rfl (.plain rfl (op_build (parts := [(0, .tmp 56), (1, .tmp 57), (2, .tmp 58)]) (ns := [1, 1, 1, 1, 1, 1]) (zs := [[.int .i64 0], [.string ⟨⟨[]⟩⟩], [.string ⟨⟨[]⟩⟩], [.bool false], [.int .i64 0], [.slice none 0 0]]) rfl rfl (by kernel_rfl) (by kernel_rfl) (fun w a hl => by
    intro p hp
    simp only [List.mem_cons, List.not_mem_nil, or_false] at hp
    rcases hp with rfl | rfl | rfl
    ·
     exact ⟨by decide, Rep.len (α := Int) (OpdR.cells (opd_tmp rfl) hl)⟩
    ·
     exact ⟨by decide, Rep.len (α := Str) (OpdR.cells (opd_tmp rfl) hl)⟩
    ·
     exact ⟨by decide, Rep.len (α := Str) (OpdR.cells (opd_tmp rfl) hl)⟩) (fun w a hl => File.parts (x := ⟨x, p, s, false, 0, []⟩) (OpdR.cells (opd_tmp rfl) hl) (OpdR.cells (opd_tmp rfl) hl) (OpdR.cells (opd_tmp rfl) hl) ⟨rfl, trivial⟩ ⟨rfl, trivial⟩ zero_list)))
     (.cons rfl (by decide) rfl (.plain rfl (op_call (l := [.tmp 52, .tmp 59]) rfl (by kernel_rfl) (.cons (opd_tmp rfl) (.cons (opd_tmp rfl) .nil)) (spec_fileAt_ok _ _)))
     (.cons rfl (by decide) rfl (.plain rfl (op_assign rfl (opd_tmp rfl)))
     .nil))))))))))
     (kc 0 rfl (kc 1 rfl (kc 2 rfl (kc 3 rfl (kc 4 rfl (kc 8 rfl (kc 9 rfl (kc 10 rfl (kc 11 rfl (kc 12 rfl (kc 13 rfl (kc 18 rfl (kc 44 rfl .nil))))))))))))) (fun a12 w12 e12 st12 => ?_)
    refine then_normal (wp_seq (wp_seq ?_))
    refine region_seg st12 (sc rfl ((op_move rfl (opd_tmp rfl)))
     (sc rfl ((op_cmpI rfl (by decide) (opd_tmp rfl) opd_int))
     .nil))
     (kc 0 rfl (kc 1 rfl (kc 2 rfl (kc 3 rfl (kc 4 rfl (kc 8 rfl (kc 9 rfl (kc 10 rfl (kc 11 rfl (kc 12 rfl (kc 13 rfl (kc 18 rfl (kc 44 rfl (kc 62 rfl .nil)))))))))))))) (fun a13 w13 e13 st13 => ?_)
    refine then_normal ?_
    refine cond_split (c := 62) st13 rfl (fun h3 => ?_) (fun h3 => ?_)
    ·
     have q2 := h3
     refine wp_seq (wp_region_list ?_)
     refine seg_n 3 st13 (sc rfl ((op_move rfl (opd_tmp rfl)))
      (sc rfl ((op_lit (opds := []) (α := Int) rfl (by kernel_rfl) (by kernel_rfl) rfl rfl (by decide) .nil))
      (sc rfl ((op_build (parts := [(0, .const (.int .i64 1)), (1, .tmp 63), (2, .tmp 64)]) (ns := [1, 1, 1]) (zs := [[.int .i64 0], [.int .i64 0], [.slice none 0 0]]) rfl rfl (by kernel_rfl) (by kernel_rfl) (fun w a hl => by
    intro p hp
    simp only [List.mem_cons, List.not_mem_nil, or_false] at hp
    rcases hp with rfl | rfl | rfl
    ·
     exact ⟨by decide, rfl⟩
    ·
     exact ⟨by decide, Rep.len (α := Int) (OpdR.cells (opd_tmp rfl) hl)⟩
    ·
     exact ⟨by decide, Rep.len (α := (List Int)) (OpdR.cells (opd_tmp rfl) hl)⟩) (fun w a hl => Spec.parts (x := ⟨1, fileAt t.files ⟨x, p, s, false, 0, []⟩, []⟩) (OpdR.cells opd_int hl) (OpdR.cells (opd_tmp rfl) hl) (OpdR.cells (opd_tmp rfl) hl))))
      .nil)))
      (kc 0 rfl (kc 1 rfl (kc 2 rfl (kc 3 rfl (kc 4 rfl (kc 8 rfl (kc 9 rfl (kc 10 rfl (kc 11 rfl (kc 12 rfl (kc 13 rfl (kc 18 rfl (kc 44 rfl (kc 62 rfl (kc 65 rfl .nil))))))))))))))) (fun a14 w14 e14 st14 => ?_)
     refine wpl_storeNew st14 rfl rfl rfl (by kernel_rfl) rfl hb2 (.inl (.inr rfl)) rfl (opd_tmp rfl) (.cons (s := 0) rfl (fun _ _ h => h) (.cons (s := 1) rfl (fun _ _ h => h) (.cons (s := 2) rfl (fun _ _ h => h) (.cons (s := 3) rfl (fun _ _ h => h) (.cons (s := 4) rfl (fun _ _ h => h) (.cons (s := 9) rfl (tip_off hg5 (.inr rfl)) (.cons (s := 10) rfl (fun _ _ h => h) (.cons (s := 11) rfl (fun _ _ h => h) (.cons (s := 12) rfl (fun _ _ h => h) (.cons (s := 13) rfl (fun _ _ h => h) (.cons (s := 18) rfl (fun _ _ h => h) (.cons (s := 44) rfl (fun _ _ h => h) (.cons (s := 62) rfl (fun _ _ h => h) .nil))))))))))))) (fun w15 st15 => ?_)
     refine wpList_nil (then_normal ?_)
     refine wp_ret (thn_ret (blk_ret (thn_ret (thn_ret (blk_ret (thn_ret ?_))))))
     refine ret_box rfl (by kernel_rfl) st15 (t := 8) rfl (fun _ h => (.inl (.inl h))) ?_
     rw [findIn, ← hrun, drop_at hx, findRun, if_neg (by rw [q1]; decide), if_pos q2]
    ·
     have q2 := h3
     refine wp_skip (then_normal (wp_seq ?_))
     refine region_seg st13 (sc rfl ((op_move rfl (opd_tmp rfl)))
      .nil)
      (kc 0 rfl (kc 1 rfl (kc 2 rfl (kc 3 rfl (kc 4 rfl (kc 8 rfl (kc 9 rfl (kc 10 rfl (kc 11 rfl (kc 12 rfl (kc 13 rfl (kc 18 rfl (kc 44 rfl (kc 62 rfl (kc 66 rfl .nil))))))))))))))) (fun a16 w16 e16 st16 => ?_)
     refine then_normal ?_
     refine cond_split (c := 66) st16 rfl (fun h4 => ?_) (fun h4 => ?_)
     ·
      have q3 := h4
      refine wp_region_list ?_
      refine seg_n 6 st16 (sc rfl ((op_move rfl (opd_tmp rfl)))
       (sc rfl ((op_move rfl (opd_tmp rfl)))
       (sc rfl ((op_move rfl (opd_tmp rfl)))
       (sc rfl ((op_indexE rfl (by kernel_rfl) (opd_tmp rfl) (opd_tmp rfl) rfl (by assumption)))
       (sc rfl ((op_load rfl (by kernel_rfl) (opd_tmp rfl)))
       (sc rfl ((op_lit (opds := [.tmp 71]) rfl (by kernel_rfl) (by kernel_rfl) rfl rfl (by decide) (.cons (opd_tmp rfl) .nil)))
       .nil))))))
       (kc 0 rfl (kc 1 rfl (kc 2 rfl (kc 3 rfl (kc 4 rfl (kc 8 rfl (kc 9 rfl (kc 10 rfl (kc 11 rfl (kc 12 rfl (kc 13 rfl (kc 18 rfl (kc 44 rfl (kc 62 rfl (kc 66 rfl (kc 67 rfl (kc 72 rfl .nil))))))))))))))))) (fun a17 w17 e17 st17 => ?_)
      refine wpl_append (bytes := 8) (st17) rfl rfl rfl (by decide) (by kernel_rfl) rfl rfl row_dt (len1 (by omega)) (len1b (by omega)) (.cons (s := 0) rfl (fun _ _ h => h) (.cons (s := 1) rfl (fun _ _ h => h) (.cons (s := 2) rfl (fun _ _ h => h) (.cons (s := 3) rfl (fun _ _ h => h) (.cons (s := 4) rfl (fun _ _ h => h) (.cons (s := 8) rfl (draw_off hg5 (.inr rfl)) (.cons (s := 10) rfl (fun _ _ h => h) (.cons (s := 11) rfl (fun _ _ h => h) (.cons (s := 12) rfl (fun _ _ h => h) (.cons (s := 13) rfl (fun _ _ h => h) (.cons (s := 18) rfl (fun _ _ h => h) (.cons (s := 44) rfl (fun _ _ h => h) (.cons (s := 62) rfl (fun _ _ h => h) (.cons (s := 66) rfl (fun _ _ h => h) .nil)))))))))))))) (hg5) (fun g18 a18 w18 hg18 st18 => ?_)
      refine seg_n 1 st18 (sc rfl ((op_assign rfl (opd_tmp rfl)))
       .nil)
       (kc 0 rfl (kc 1 rfl (kc 2 rfl (kc 3 rfl (kc 4 rfl (kc 8 rfl (kc 9 rfl (kc 10 rfl (kc 11 rfl (kc 12 rfl (kc 13 rfl (kc 18 rfl (kc 44 rfl (kc 62 rfl (kc 66 rfl .nil))))))))))))))) (fun a19 w19 e19 st19 => ?_)
      refine wpList_nil (blk_normal (then_normal ?_))
      refine region_seg st19 (sc rfl ((op_move rfl (opd_tmp rfl)))
       (sc rfl ((op_arI rfl (by decide) (opd_tmp rfl) opd_int (by simp only [arI]; omega)))
       (sc rfl ((op_assign rfl (opd_tmp rfl)))
       .nil)))
       (kc 0 rfl (kc 1 rfl (kc 2 rfl (kc 3 rfl (kc 4 rfl (kc 8 rfl (kc 9 rfl (kc 10 rfl (kc 11 rfl (kc 12 rfl (kc 13 rfl (kc 18 rfl (kc 44 rfl (kc 62 rfl (kc 66 rfl .nil))))))))))))))) (fun a20 w20 e20 st20 => ?_)
      refine then_normal ⟨(k+1, acc ++ [x]), ⟨g18, hg18, st20.pick (kc 0 rfl (kc 1 rfl (kc 2 rfl (kc 3 rfl (kc 4 rfl (kc 8 rfl (kc 9 rfl (kc 10 rfl .nil)))))))), by dsimp only; omega, by dsimp only; rw [List.length_append]; exact Nat.succ_le_succ ha, by dsimp only; rw [← hrun, drop_at hx]; exact (by rw [findRun, if_neg (by rw [q1]; decide), if_neg (by rw [q2]; decide), if_pos q3])⟩, by dsimp only; omega⟩
     ·
      have q3 := h4
      refine wp_skip (blk_normal (then_normal ?_))
      refine region_seg st16 (sc rfl ((op_move rfl (opd_tmp rfl)))
       (sc rfl ((op_arI rfl (by decide) (opd_tmp rfl) opd_int (by simp only [arI]; omega)))
       (sc rfl ((op_assign rfl (opd_tmp rfl)))
       .nil)))
       (kc 0 rfl (kc 1 rfl (kc 2 rfl (kc 3 rfl (kc 4 rfl (kc 8 rfl (kc 9 rfl (kc 10 rfl (kc 11 rfl (kc 12 rfl (kc 13 rfl (kc 18 rfl (kc 44 rfl (kc 62 rfl (kc 66 rfl .nil))))))))))))))) (fun a21 w21 e21 st21 => ?_)
      refine then_normal ⟨(k+1, acc), ⟨g5, hg5, st21.pick (kc 0 rfl (kc 1 rfl (kc 2 rfl (kc 3 rfl (kc 4 rfl (kc 8 rfl (kc 9 rfl (kc 10 rfl .nil)))))))), by dsimp only; omega, by dsimp only; omega, by dsimp only; rw [← hrun, drop_at hx]; exact (by rw [findRun, if_neg (by rw [q1]; decide), if_neg (by rw [q2]; decide), if_neg (by rw [q3]; decide)])⟩, by dsimp only; omega⟩
  ·
   have hend := end_of h1
   refine wp_exit (thn_exit (thn_exit (exit_here ?_)))
   refine then_normal (wp_seq (wp_seq ?_))
   refine region_seg st6 (sc rfl ((op_move rfl (opd_tmp rfl)))
    (sc rfl ((op_lenT rfl (by kernel_rfl) (opd_tmp rfl)))
    (sc rfl ((op_cmpI rfl (by decide) (opd_tmp rfl) opd_int))
    .nil)))
    (kc 0 rfl (kc 1 rfl (kc 2 rfl (kc 3 rfl (kc 4 rfl (kc 8 rfl (kc 9 rfl (kc 10 rfl (kc 18 rfl (kc 76 rfl .nil)))))))))) (fun a22 w22 e22 st22 => ?_)
   refine then_normal ?_
   refine cond_split (c := 76) st22 rfl (fun h5 => ?_) (fun h5 => ?_)
   ·
    have q4 := h5
    refine wp_seq ?_
    have st23 := st22.freeze hg5 (s := 9) rfl (.cons (s := 0) rfl (fun _ _ h => h) (.cons (s := 1) rfl (fun _ _ h => h) (.cons (s := 2) rfl (fun _ _ h => h) (.cons (s := 3) rfl (fun _ _ h => h) (.cons (s := 4) rfl (fun _ _ h => h) (.cons (s := 8) rfl (draw_off hg5 (.inr rfl)) (.cons (s := 10) rfl (fun _ _ h => h) (.cons (s := 18) rfl (fun _ _ h => h) (.cons (s := 76) rfl (fun _ _ h => h) .nil)))))))))
    refine wp_region_list ?_
    refine seg_n 2 st23 (sc rfl ((op_move rfl (opd_tmp rfl)))
     (sc rfl ((op_build (parts := [(0, .const (.int .i64 3)), (1, .const (.int .i64 (-1))), (2, .tmp 77)]) (ns := [1, 1, 1]) (zs := [[.int .i64 0], [.int .i64 0], [.slice none 0 0]]) rfl rfl (by kernel_rfl) (by kernel_rfl) (fun w a hl => by
    intro p hp
    simp only [List.mem_cons, List.not_mem_nil, or_false] at hp
    rcases hp with rfl | rfl | rfl
    ·
     exact ⟨by decide, rfl⟩
    ·
     exact ⟨by decide, rfl⟩
    ·
     exact ⟨by decide, Rep.len (α := (List Int)) (OpdR.cells (opd_tmp rfl) hl)⟩) (fun w a hl => Spec.parts (x := ⟨3, -1, acc⟩) (OpdR.cells opd_int hl) (OpdR.cells opd_int hl) (OpdR.cells (opd_tmp rfl) hl))))
     .nil))
     (kc 0 rfl (kc 1 rfl (kc 2 rfl (kc 3 rfl (kc 4 rfl (kc 8 rfl (kc 9 rfl (kc 10 rfl (kc 18 rfl (kc 76 rfl (kc 78 rfl .nil))))))))))) (fun a24 w24 e24 st24 => ?_)
    refine wpl_storeNew st24 rfl rfl rfl (by kernel_rfl) rfl hb2 (.inr rfl) rfl (opd_tmp rfl) (.cons (s := 0) rfl (fun _ _ h => h) (.cons (s := 1) rfl (fun _ _ h => h) (.cons (s := 2) rfl (fun _ _ h => h) (.cons (s := 3) rfl (fun _ _ h => h) (.cons (s := 4) rfl (fun _ _ h => h) (.cons (s := 9) rfl (fun _ _ h => h) (.cons (s := 10) rfl (fun _ _ h => h) (.cons (s := 18) rfl (fun _ _ h => h) (.cons (s := 76) rfl (fun _ _ h => h) .nil))))))))) (fun w25 st25 => ?_)
    refine wpList_nil (then_normal ?_)
    refine wp_ret (thn_ret ?_)
    refine ret_box rfl (by kernel_rfl) st25 (t := 8) rfl (fun _ h => (.inl h)) ?_
    rw [findIn, ← hrun, List.drop_of_length_le hend, findRun, if_pos q4]
   ·
    have q4 := h5
    refine wp_skip (then_normal (wp_seq (wp_region_list ?_)))
    refine seg_n 1 st22 (sc rfl ((op_call (l := []) rfl (by kernel_rfl) .nil (spec_noSpec_ok )))
     .nil)
     (kc 0 rfl (kc 1 rfl (kc 2 rfl (kc 3 rfl (kc 4 rfl (kc 8 rfl (kc 9 rfl (kc 10 rfl (kc 18 rfl (kc 76 rfl (kc 79 rfl .nil))))))))))) (fun a26 w26 e26 st26 => ?_)
    refine wpl_storeNew st26 rfl rfl rfl (by kernel_rfl) rfl hb2 (.inl (.inr rfl)) rfl (opd_tmp rfl) (.cons (s := 0) rfl (fun _ _ h => h) (.cons (s := 1) rfl (fun _ _ h => h) (.cons (s := 2) rfl (fun _ _ h => h) (.cons (s := 3) rfl (fun _ _ h => h) (.cons (s := 4) rfl (fun _ _ h => h) (.cons (s := 9) rfl (tip_off hg5 (.inr rfl)) (.cons (s := 10) rfl (fun _ _ h => h) (.cons (s := 18) rfl (fun _ _ h => h) (.cons (s := 76) rfl (fun _ _ h => h) .nil))))))))) (fun w27 st27 => ?_)
    refine wpList_nil (then_normal (wp_ret ?_))
    refine ret_box rfl (by kernel_rfl) st27 (t := 8) rfl (fun _ h => (.inl (.inl h))) ?_
    rw [findIn, ← hrun, List.drop_of_length_le hend, findRun, if_neg (by rw [q4]; decide)]
theorem spec_find_ok (t : Tree) (path : List Int) (s : Str) (hpl : path.length <= 1099511627776) (hs : mid s) : Fn Tryz.prog 56 [dt t, dt path, dt s] (dt (find t.files path s)) := by
 refine fn_of_wp (fn := Tryz.f56) Tryz.func56 rfl (of_decide_eq_true rfl) (fun M w0 a0 hm st0 => ?_)
 have hroom := split_room s dot
 have hlr := len_room (splitAt s dot)
 have hms : s.l.length <= 1099511627776 := hs
 refine wp_seq (wp_region_list ?_)
 refine seg_n 1 st0 (sc rfl ((op_box rfl (opd_tmp rfl)))
  .nil)
  (kc 0 rfl (kc 1 rfl (kc 2 rfl (kc 3 rfl .nil)))) (fun a1 w1 e1 st1 => ?_)
 refine wpl_alloc (n := 3) st1 rfl rfl rfl (by decide) (by kernel_rfl) (kc 0 rfl (kc 1 rfl (kc 2 rfl (kc 3 rfl .nil)))) (fun b2 a2 w2 hb2 hn2 e2 st2 => ?_)
 refine wpList_nil (then_normal (wp_seq ?_))
 refine region_seg st2 (sc rfl ((op_move rfl (opd_tmp rfl)))
  (sc rfl ((op_call (l := [.tmp 10, .const (.int .u8 46)]) rfl (by kernel_rfl) (.cons (opd_tmp rfl) (.cons (opd_u8 (by decide)) .nil)) (spec_splitAt_ok _ dot (by assumption))))
  (sc rfl ((op_assign rfl (opd_tmp rfl)))
  .nil)))
  (kc 0 rfl (kc 1 rfl (kc 2 rfl (kc 3 rfl (kc 6 rfl (kc 7 rfl .nil)))))) (fun a3 w3 e3 st3 => ?_)
 refine then_normal (wp_seq (wp_region_list ?_))
 refine seg_n 2 st3 (sc rfl ((op_move rfl (opd_tmp rfl)))
  (sc rfl ((op_build (parts := [(0, .const (.int .i64 3)), (1, .const (.int .i64 (-1))), (2, .tmp 12)]) (ns := [1, 1, 1]) (zs := [[.int .i64 0], [.int .i64 0], [.slice none 0 0]]) rfl rfl (by kernel_rfl) (by kernel_rfl) (fun w a hl => by
    intro p hp
    simp only [List.mem_cons, List.not_mem_nil, or_false] at hp
    rcases hp with rfl | rfl | rfl
    ·
     exact ⟨by decide, rfl⟩
    ·
     exact ⟨by decide, rfl⟩
    ·
     exact ⟨by decide, Rep.len (α := (List Int)) (OpdR.cells (opd_tmp rfl) hl)⟩) (fun w a hl => Spec.parts (x := ⟨3, -1, path⟩) (OpdR.cells opd_int hl) (OpdR.cells opd_int hl) (OpdR.cells (opd_tmp rfl) hl))))
  .nil))
  (kc 0 rfl (kc 1 rfl (kc 2 rfl (kc 3 rfl (kc 6 rfl (kc 7 rfl (kc 13 rfl .nil))))))) (fun a4 w4 e4 st4 => ?_)
 refine wpl_alloc (n := 3) st4 rfl rfl rfl (by decide) (by kernel_rfl) (kc 0 rfl (kc 1 rfl (kc 2 rfl (kc 3 rfl (kc 6 rfl (kc 7 rfl (kc 13 rfl .nil))))))) (fun b5 a5 w5 hb5 hn5 e5 st5 => ?_)
 refine wpl_storeNew st5 rfl rfl rfl (by kernel_rfl) rfl hb5 (.inr rfl) rfl (opd_tmp rfl) (.cons (s := 0) rfl (fun _ _ h => h) (.cons (s := 1) rfl (fun _ _ h => h) (.cons (s := 2) rfl (fun _ _ h => h) (.cons (s := 3) rfl (fun _ _ h => h) (.cons (s := 6) rfl (draw_ne' hn5 (.inr rfl)) (.cons (s := 7) rfl (fun _ _ h => h) .nil)))))) (fun w6 st6 => ?_)
 refine wpList_nil (then_normal (wp_seq (wp_seq ?_)))
 refine region_seg st6 (sc rfl ((op_assign rfl opd_int))
  .nil)
  (kc 0 rfl (kc 1 rfl (kc 2 rfl (kc 3 rfl (kc 6 rfl (kc 7 rfl (kc 8 rfl (kc 9 rfl .nil)))))))) (fun a7 w7 e7 st7 => ?_)
 refine then_normal (wp_block ?_)
 refine loop_st (ι := Nat × Spec) (fun i a w => St (Frm.of w0) 42 (insO (some b5) (insO (some b2) M)) [(0, dt t), (1, dt path), (2, dt s), (3, dptr t), (6, draw (some b2) 3), (7, dt (splitAt s dot)), (8, dbox (some b5) 0 i.2), (9, dt (i.1 : Int))] a w /\ i.1 <= (splitAt s dot).length /\ i.2.roots.length <= 1099511627776 /\ findRest t.files (splitAt s dot) i.1 i.2 ((splitAt s dot).drop i.1) = find t.files path s) (fun i => (splitAt s dot).length - i.1) (0, ⟨3, -1, path⟩) ?_ ?_
 ·
  exact ⟨st7.pick (kc 0 rfl (kc 1 rfl (kc 2 rfl (kc 3 rfl (kc 6 rfl (kc 7 rfl (kc 8 rfl (kc 9 rfl .nil)))))))), Nat.zero_le _, hpl, rfl⟩
 ·
  rintro ⟨k, out⟩ a8 w8 ⟨st8, hk, ha, hrun⟩
  dsimp only at *
  refine wp_seq (wp_seq ?_)
  refine region_seg st8 (sc rfl ((op_move rfl (opd_tmp rfl)))
   (sc rfl ((op_move rfl (opd_tmp rfl)))
   (sc rfl ((op_lenL rfl (by kernel_rfl) (opd_tmp rfl)))
   (sc rfl ((op_cmpI rfl (by decide) (opd_tmp rfl) (opd_tmp rfl)))
   .nil))))
   (kc 0 rfl (kc 1 rfl (kc 2 rfl (kc 3 rfl (kc 6 rfl (kc 7 rfl (kc 8 rfl (kc 9 rfl (kc 17 rfl .nil))))))))) (fun a9 w9 e9 st9 => ?_)
  refine then_normal ?_
  refine cond_split (c := 17) st9 rfl (fun h1 => ?_) (fun h1 => ?_)
  ·
   obtain ⟨x, hx⟩ := idx_of h1
   have hlt := lt_of_get hx
   have hj1 := join_le (splitAt s dot) k
   have hj2 := part_le hx
   have hj3 := lenSum_take_le (splitAt s dot) k
   refine wp_skip (then_normal (wp_seq (wp_block (wp_seq (wp_seq ?_)))))
   refine region_seg st9 (sc rfl ((op_fieldBox Spec.fld0 rfl (by kernel_rfl) (opd_tmp rfl)))
    (sc rfl ((op_loadBox rfl (by kernel_rfl) (opd_tmp rfl)))
    (sc rfl ((op_cmpI rfl (by decide) (opd_tmp rfl) opd_int))
    (sc rfl ((op_move rfl (opd_tmp rfl)))
    (.cons rfl (by decide) (.guarded rfl rfl (by decide) rfl dt_bv (fun hg => op_fieldBox Spec.fld0 rfl (by kernel_rfl) (opd_tmp rfl)))
    (.cons rfl (by decide) (.guarded rfl rfl (by decide) rfl dt_bv (fun hg => op_loadBox rfl (by kernel_rfl) (opd_g hg rfl)))
    (.cons rfl (by decide) (.guarded rfl rfl (by decide) rfl dt_bv (fun hg => op_cmpI rfl (by decide) (opd_g hg rfl) opd_int))
    (sc rfl ((op_and rfl (opd_tmp rfl) (opd_tmp rfl)))
    .nil))))))))
    (kc 0 rfl (kc 1 rfl (kc 2 rfl (kc 3 rfl (kc 6 rfl (kc 7 rfl (kc 8 rfl (kc 9 rfl (kc 17 rfl (kc 27 rfl .nil)))))))))) (fun a10 w10 e10 st10 => ?_)
   refine then_normal ?_
   refine cond_split (c := 27) st10 rfl (fun h2 => ?_) (fun h2 => ?_)
   ·
    have q1 := h2
    refine wp_seq (wp_region_list ?_)
    refine seg_n 1 st10 (sc rfl ((op_call (l := []) rfl (by kernel_rfl) .nil (spec_noSpec_ok )))
     .nil)
     (kc 0 rfl (kc 1 rfl (kc 2 rfl (kc 3 rfl (kc 6 rfl (kc 7 rfl (kc 8 rfl (kc 9 rfl (kc 17 rfl (kc 27 rfl (kc 28 rfl .nil))))))))))) (fun a11 w11 e11 st11 => ?_)
    refine wpl_storeNew st11 rfl rfl rfl (by kernel_rfl) rfl hb2 (.inl (.inr rfl)) rfl (opd_tmp rfl) (.cons (s := 0) rfl (fun _ _ h => h) (.cons (s := 1) rfl (fun _ _ h => h) (.cons (s := 2) rfl (fun _ _ h => h) (.cons (s := 3) rfl (fun _ _ h => h) (.cons (s := 7) rfl (fun _ _ h => h) (.cons (s := 8) rfl (box_ne hn5 (.inr rfl)) (.cons (s := 9) rfl (fun _ _ h => h) (.cons (s := 17) rfl (fun _ _ h => h) (.cons (s := 27) rfl (fun _ _ h => h) .nil))))))))) (fun w12 st12 => ?_)
    refine wpList_nil (then_normal ?_)
    refine wp_ret (thn_ret (blk_ret (thn_ret (thn_ret (blk_ret (thn_ret ?_))))))
    refine ret_box rfl (by kernel_rfl) st12 (t := 6) rfl (fun _ h => (.inl (.inl h))) ?_
    rw [← hrun, drop_at hx, findRest, if_pos q1]
   ·
    have q1 := h2
    refine wp_skip (then_normal ?_)
    refine region_draw_n Tryz_mixed 12 [[], [], [1], [], [], [3, 4], [3, 4, 5], [], [], [7, 8], [7, 8, 9], [0, 1, 2, 3, 4, 5, 6, 7, 8, 9, 10], [0, 1, 2, 3, 4, 5, 6, 7, 8, 9, 10, 11]] [[(3, none)], [(8, none)], [(30, some 1)], [(7, none)], [(9, none)], [(32, some 3), (33, some 4)], [(34, some 5)], [(7, none)], [(9, none)], [(36, some 7), (37, some 8)], [(38, some 9)], [(29, some 0), (31, some 2), (35, some 6), (39, some 10)], [(8, none), (40, some 11)]] (by decide +kernel) (by decide) st10 (D := [_, _, _, _, _, _, _, _, _, _, _, _])
     (.cons rfl (by decide) rfl (.plain rfl (op_load rfl (by kernel_rfl) (opd_tmp rfl)))
     (.cons rfl (by decide) rfl (.plain rfl (op_fieldBox Spec.fld2 rfl (by kernel_rfl) (opd_tmp rfl)))
     (.cons rfl (by decide) rfl (.plain rfl (op_loadBox rfl (by kernel_rfl) (opd_tmp rfl)))
     (.cons rfl (by decide) rfl (.plain rfl (op_move rfl (opd_tmp rfl)))
     (.cons rfl (by decide) rfl (.plain rfl (op_move rfl (opd_tmp rfl)))
     (.cons rfl (by decide) rfl (.plain rfl (op_sliceHe rfl (by kernel_rfl) (opd_tmp rfl) (opd_tmp rfl) rfl (by omega)))
     (.cons rfl (by decide) rfl (.plain rfl (op_call (l := [.tmp 34]) rfl (by kernel_rfl) (.cons (opd_tmp rfl) .nil) (spec_join_ok _ (by omega))))
     (.cons rfl (by decide) rfl (.plain rfl (op_move rfl (opd_tmp rfl)))
     (.cons rfl (by decide) rfl (.plain rfl (op_move rfl (opd_tmp rfl)))
     (.cons rfl (by decide) rfl (.plain rfl (op_indexE rfl (by kernel_rfl) (opd_tmp rfl) (opd_tmp rfl) rfl (by assumption)))
     (.cons rfl (by decide) rfl (.plain rfl (op_load rfl (by kernel_rfl) (opd_tmp rfl)))
     (.cons rfl (by decide) rfl (.plain rfl (op_call (l := [.tmp 29, .tmp 31, .tmp 35, .tmp 39]) rfl (by kernel_rfl) (.cons (opd_tmp rfl) (.cons (opd_tmp rfl) (.cons (opd_tmp rfl) (.cons (opd_tmp rfl) .nil)))) (spec_findIn_ok _ _ _ _ ha (by omega))))
     .nil))))))))))))
     (kc 0 rfl (kc 1 rfl (kc 2 rfl (kc 3 rfl (kc 6 rfl (kc 7 rfl (kc 8 rfl (kc 9 rfl (kc 17 rfl (kc 27 rfl (kc 40 rfl .nil))))))))))) (fun a13 w13 e13 st13 => ?_)
    refine wpl_storeAt (sb := 8) st13 FldS.id rfl rfl rfl (by kernel_rfl) hb5 (.inr rfl) rfl (opd_tmp rfl) rfl (.cons (s := 0) rfl (fun _ _ h => h) (.cons (s := 1) rfl (fun _ _ h => h) (.cons (s := 2) rfl (fun _ _ h => h) (.cons (s := 3) rfl (fun _ _ h => h) (.cons (s := 6) rfl (draw_ne' hn5 (.inr rfl)) (.cons (s := 7) rfl (fun _ _ h => h) (.cons (s := 9) rfl (fun _ _ h => h) (.cons (s := 17) rfl (fun _ _ h => h) (.cons (s := 27) rfl (fun _ _ h => h) .nil))))))))) (fun w14 st14 => ?_)
    refine wpList_nil (blk_normal (then_normal ?_))
    refine region_seg st14 (sc rfl ((op_move rfl (opd_tmp rfl)))
     (sc rfl ((op_arI rfl (by decide) (opd_tmp rfl) opd_int (by simp only [arI]; omega)))
     (sc rfl ((op_assign rfl (opd_tmp rfl)))
     .nil)))
     (kc 0 rfl (kc 1 rfl (kc 2 rfl (kc 3 rfl (kc 6 rfl (kc 7 rfl (kc 8 rfl (kc 9 rfl (kc 17 rfl (kc 27 rfl .nil)))))))))) (fun a15 w15 e15 st15 => ?_)
    refine then_normal ⟨(k+1, findIn t.files out.roots (join ((splitAt s dot).take k)) x), ⟨st15.pick (kc 0 rfl (kc 1 rfl (kc 2 rfl (kc 3 rfl (kc 6 rfl (kc 7 rfl (kc 8 rfl (kc 9 rfl .nil)))))))), by dsimp only; omega, by dsimp only; have := findRun_len t.files (join ((splitAt s dot).take k)) x out.roots []; exact Nat.le_trans this (by simpa using ha), by dsimp only; rw [← hrun, drop_at hx]; exact (by rw [findRest, if_neg (by rw [q1]; decide)])⟩, by dsimp only; omega⟩
  ·
   have hend := end_of h1
   refine wp_exit (thn_exit (thn_exit (exit_here ?_)))
   refine then_normal (wp_seq (wp_region_list ?_))
   refine seg_n 1 st9 (sc rfl ((op_loadBox rfl (by kernel_rfl) (opd_tmp rfl)))
    .nil)
    (kc 0 rfl (kc 1 rfl (kc 2 rfl (kc 3 rfl (kc 6 rfl (kc 7 rfl (kc 8 rfl (kc 9 rfl (kc 17 rfl (kc 41 rfl .nil)))))))))) (fun a16 w16 e16 st16 => ?_)
   refine wpl_storeNew st16 rfl rfl rfl (by kernel_rfl) rfl hb2 (.inl (.inr rfl)) rfl (opd_tmp rfl) (.cons (s := 0) rfl (fun _ _ h => h) (.cons (s := 1) rfl (fun _ _ h => h) (.cons (s := 2) rfl (fun _ _ h => h) (.cons (s := 3) rfl (fun _ _ h => h) (.cons (s := 7) rfl (fun _ _ h => h) (.cons (s := 8) rfl (box_ne hn5 (.inr rfl)) (.cons (s := 9) rfl (fun _ _ h => h) (.cons (s := 17) rfl (fun _ _ h => h) .nil)))))))) (fun w17 st17 => ?_)
   refine wpList_nil (then_normal (wp_ret ?_))
   refine ret_box rfl (by kernel_rfl) st17 (t := 6) rfl (fun _ h => (.inl (.inl h))) ?_
   rw [← hrun, List.drop_of_length_le hend, findRest]
end Go.Proofs.YtbnibckkfknpkaaGreatDoor
namespace Go.Proofs.YtbnibckkfknpkaaGreatDoor
open Go.RowKit
set_option maxRecDepth 10000
end Go.Proofs.YtbnibckkfknpkaaGreatDoor
