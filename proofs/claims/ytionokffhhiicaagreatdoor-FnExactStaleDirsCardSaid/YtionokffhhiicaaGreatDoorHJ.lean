/-
  Models of functions, and their walks: printed by a program of our own (wip/mxo.py).
-/
import Derived.Test.YtionokffhhiicaaGreatDoorHH
namespace Go.Proofs.YtionokffhhiicaaGreatDoor
open Go.RowKit
set_option maxRecDepth 10000

theorem kN162 : fnB Tryz.prog 162 = true := by kernel_rfl
theorem kN161 : fnB Tryz.prog 161 = true := by kernel_rfl
theorem kN118 : fnB Tryz.prog 118 = true := by kernel_rfl
theorem kN74 : fnB Tryz.prog 74 = true := by kernel_rfl
theorem kN189 : fnB Tryz.prog 189 = true := by kernel_rfl
theorem kN164 : fnB Tryz.prog 164 = true := by kernel_rfl
theorem kN120 : fnB Tryz.prog 120 = true := by kernel_rfl
theorem kN19 : fnB Tryz.prog 19 = true := by kernel_rfl
theorem kN20 : fnB Tryz.prog 20 = true := by kernel_rfl
theorem kN67 : fnB Tryz.prog 67 = true := by kernel_rfl
theorem kN68 : fnB Tryz.prog 68 = true := by kernel_rfl
theorem kN144 : fnB Tryz.prog 144 = true := by kernel_rfl
theorem kN122 : fnB Tryz.prog 122 = true := by kernel_rfl
theorem kN121 : fnB Tryz.prog 121 = true := by kernel_rfl
theorem kN53 : fnB Tryz.prog 53 = true := by kernel_rfl
theorem kN107 : fnB Tryz.prog 107 = true := by kernel_rfl
theorem kN123 : fnB Tryz.prog 123 = true := by kernel_rfl
theorem kN124 : fnB Tryz.prog 124 = true := by kernel_rfl
theorem kN56 : fnB Tryz.prog 56 = true := by kernel_rfl
theorem kN69 : fnB Tryz.prog 69 = true := by kernel_rfl
theorem kN70 : fnB Tryz.prog 70 = true := by kernel_rfl
theorem kN71 : fnB Tryz.prog 71 = true := by kernel_rfl
theorem kN73 : fnB Tryz.prog 73 = true := by kernel_rfl
theorem kN72 : fnB Tryz.prog 72 = true := by kernel_rfl
theorem kT71 : tyB Tryz.prog 71 true 3 = true := by kernel_rfl
theorem kN43 : fnB Tryz.prog 43 = true := by kernel_rfl
theorem kT73 : tyB Tryz.prog 73 true 3 = true := by kernel_rfl
theorem kN44 : fnB Tryz.prog 44 = true := by kernel_rfl
theorem kN45 : fnB Tryz.prog 45 = true := by kernel_rfl
theorem kN46 : fnB Tryz.prog 46 = true := by kernel_rfl
theorem kN18 : fnB Tryz.prog 18 = true := by kernel_rfl
theorem kN16 : fnB Tryz.prog 16 = true := by kernel_rfl
theorem kN14 : fnB Tryz.prog 14 = true := by kernel_rfl
theorem kN47 : fnB Tryz.prog 47 = true := by kernel_rfl
theorem kN48 : fnB Tryz.prog 48 = true := by kernel_rfl
theorem kN49 : fnB Tryz.prog 49 = true := by kernel_rfl
theorem kN50 : fnB Tryz.prog 50 = true := by kernel_rfl
theorem kN40 : fnB Tryz.prog 40 = true := by kernel_rfl
theorem kN51 : fnB Tryz.prog 51 = true := by kernel_rfl

def m_slices_IndexFunc_impl_Dir_impl_Dir_s0 (x0 : List Dir) (x1 : (Dir → Option Bool)) (s4 : Int) : Option (Int ⊕ (Unit ⊕ Int)) :=
if (cmpI .lss s4 (x0.length : Int)) = true then ((atI x0 s4).bind fun v10 =>
(x1 v10).bind fun v11 =>
if v11 = true then (some (.inr (.inr s4)))
else ((i64 (s4 + (1 : Int))).bind fun v20 =>
some (.inl v20)))
else (some (.inr (.inl ())))

def m_slices_IndexFunc_impl_Dir_impl_Dir (x0 : List Dir) (x1 : (Dir → Option Bool)) : Option Int :=
Option.bind (α := Unit ⊕ Int) (loopM (fun s4 => m_slices_IndexFunc_impl_Dir_impl_Dir_s0 x0 x1 s4) (0 : Int)) (Sum.elim (fun b2 =>
some (-1 : Int)) some)

theorem slices_IndexFunc_impl_Dir_impl_Dir_w {x0 : List Dir} {x1 : (Dir → Option Bool)} {r : Int} (h : m_slices_IndexFunc_impl_Dir_impl_Dir x0 x1 = some r) : Fn Tryz.prog 161 [dt x0, dfn1 Tryz.prog x1] (dt r) := by
  unfold m_slices_IndexFunc_impl_Dir_impl_Dir at h
  refine fnx (fn := Tryz.f161) 0 Tryz.func161 rfl (of_decide_eq_true rfl) rfl (fun M w0 a0 st0 => ?_)
  refine st0.sq0 (
    sc rfl (oA rfl cI) <| .nil) [0, 1] rfl (fun a1 w1 st1 => ?_)
  obtain ⟨o2, p2, k2⟩ := bs h
  refine wp_seq_join (fun a w => ∃ b2, o2 = .inl b2 ∧ Sx (Frm.of w0) 19 M M [] [] [] a w) ?_ ?_
  ·
    refine st1.sq0 (
      sc rfl (oM rfl (tp rfl)) <|
      sc rfl (op_lenL rfl kL37 (tp rfl)) <|
      sc rfl (oM rfl cI) <| .nil) [0, 1, 7, 8] rfl (fun a3 w3 st3 => ?_)
    refine wp_block ?_
    refine loop_model p2 (fun s4 a w => Sx (Frm.of w0) 19 M M [] [(0, dt x0), (7, dt (x0.length : Int)), (8, dt s4), (1, dfn1 Tryz.prog x1)] [] a w) (st3.sel0 [0, 7, 8, 1] rfl) ?_
    rintro s4 x4 a4 w4 st4 hs4 hx4
    have h5 : m_slices_IndexFunc_impl_Dir_impl_Dir_s0 x0 x1 s4 = some x4 := hs4
    unfold m_slices_IndexFunc_impl_Dir_impl_Dir_s0 at h5
    refine st4.sq0 (
        sc rfl (oCI rfl (tp rfl) (tp rfl)) <| .nil) [0, 1, 7, 8, 9] rfl (fun a6 w6 st6 => ?_)
    refine wp_seq ?_
    refine st6.cs (c := 9) rfl h5 (fun c7 h7 => ?_) (fun c8 h8 => ?_)
    ·
      refine wp_skip ?_
      refine then_normal ?_
      refine wp_seq ?_
      refine wp_block ?_
      refine st6.sq0 (
          sc rfl (oM rfl (tp rfl)) <|
          sc rfl (oA rfl (tp rfl)) <| .nil) [0, 1, 5, 7, 8] rfl (fun a9 w9 st9 => ?_)
      obtain ⟨v10, p10, h12⟩ := bs h7
      obtain ⟨v11, p11, h13⟩ := bs h12
      refine st9.sq0 (
          sc rfl (oM rfl (tp rfl)) <|
          sc rfl (oM rfl (tp rfl)) <|
          sc rfl (oM rfl (tp rfl)) <|
          sc rfl (xIdx rfl kS37 (tp rfl) (tp rfl) p10) <|
          sc rfl (op_load rfl kT49 (tp rfl)) <|
          sc rfl (xCaF1 rfl (tp rfl) (tp rfl) p11) <| .nil) [0, 1, 5, 7, 8, 16] rfl (fun a14 w14 st14 => ?_)
      refine st14.cs (c := 16) rfl h13 (fun c15 h15 => ?_) (fun c16 h16 => ?_)
      ·
        refine st14.sq0 (
            sc rfl (oM rfl (tp rfl)) <|
            sc rfl (oA rfl (tp rfl)) <| .nil) [4] rfl (fun a17 w17 st17 => ?_)
        refine wp_ret (blk_ret (thn_ret (thn_ret (blk_ret (thn_ret ?_)))))
        have h18 := lo h15 hx4
        have h19 := jo h18 k2
        exact st17.ret rfl rfl h19
      ·
        refine wp_skip ?_
        refine blk_normal ?_
        refine then_normal ?_
        obtain ⟨v20, p20, h21⟩ := bs h16
        refine st14.rg0 (
            sc rfl (xAr rfl (tp rfl) cI p20) <|
            sc rfl (oM rfl (tp rfl)) <| .nil) [0, 1, 7, 8] rfl (fun a22 w22 st22 => ?_)
        refine then_normal ?_
        exact ⟨_, (Option.some.inj h21).symm, st22.sel0 [0, 7, 8, 1] rfl⟩
    ·
      refine wp_exit (thn_exit (thn_exit (exit_here ?_)))
      refine then_normal ?_
      have h23 := lo h8 hx4
      exact ⟨_, (Option.some.inj h23).symm, st6.sel0 [] rfl⟩
  · rintro a2 w2 ⟨b2, rfl, st2⟩
    have h24 := jn k2
    refine st2.sq0 (
      sc rfl (oA rfl cI) <| .nil) [4] rfl (fun a25 w25 st25 => ?_)
    refine wp_ret ?_
    exact st25.ret rfl rfl h24

def m_impl_dirAt_1 (x0 : Dir) (x1 : Int) (x2 : Str) : Option Bool :=
some (cmpI .eql x0.root x1 && decide (x0.pkg = x2))

theorem impl_dirAt_1_w {x0 : Dir} {x1 : Int} {x2 : Str} {r : Bool} (h : m_impl_dirAt_1 x0 x1 x2 = some r) : Fn Tryz.prog 162 [dt x0, dptr x1, dptr x2] (dt r) := by
  unfold m_impl_dirAt_1 at h
  refine fnx (fn := Tryz.f162) 0 Tryz.func162 rfl (of_decide_eq_true rfl) rfl (fun M w0 a0 st0 => ?_)
  refine st0.sq0 (
    sc rfl (op_box rfl (tp rfl)) <|
    sc rfl (oA rfl cB) <| .nil) [1, 2, 3] rfl (fun a1 w1 st1 => ?_)
  refine st1.sq0 (
    sc rfl (op_field Dir.fld0 rfl kF49_0 (tp rfl)) <|
    sc rfl (op_load rfl kT3 (tp rfl)) <|
    sc rfl (op_load rfl kT3 (tp rfl)) <|
    sc rfl (oCI rfl (tp rfl) (tp rfl)) <|
    sc rfl (oM rfl (tp rfl)) <|
    sg rfl rfl (fun hg => op_field Dir.fld1 rfl kF49_1 (tp rfl)) <|
    sg rfl rfl (fun hg => op_load rfl kT9 (opd_g hg rfl)) <|
    sg rfl rfl (fun hg => op_load rfl kT9 (tp rfl)) <|
    sg rfl rfl (fun hg => op_eqS rfl (opd_g hg rfl) (opd_g hg rfl)) <|
    sc rfl (op_and rfl (tp rfl) (opd_tmp rfl)) <|
    sc rfl (oA rfl (tp rfl)) <| .nil) [4] rfl (fun a2 w2 st2 => ?_)
  refine wp_ret ?_
  exact st2.ret rfl rfl h

def m_impl_dirAt (x0 : List Dir) (x1 : Int) (x2 : Str) : Option Int :=
(m_slices_IndexFunc_impl_Dir_impl_Dir x0 (fun a0 => m_impl_dirAt_1 a0 x1 x2)).bind fun v2 =>
some v2

theorem impl_dirAt_w {x0 : List Dir} {x1 : Int} {x2 : Str} {r : Int} (h : m_impl_dirAt x0 x1 x2 = some r) : Fn Tryz.prog 118 [dt x0, dt x1, dt x2] (dt r) := by
  unfold m_impl_dirAt at h
  refine fnx (fn := Tryz.f118) 0 Tryz.func118 rfl (of_decide_eq_true rfl) rfl (fun M w0 a0 st0 => ?_)
  refine st0.sq0 (
    sc rfl (op_box rfl (tp rfl)) <|
    sc rfl (op_box rfl (tp rfl)) <|
    sc rfl (oA rfl cI) <| .nil) [0, 4, 5] rfl (fun a1 w1 st1 => ?_)
  obtain ⟨v2, p2, h3⟩ := bs h
  refine st1.sq0 (
    sc rfl (oM rfl (tp rfl)) <|
    sc rfl (xMkF1 (l := [.tmp 4, .tmp 5]) (g := (fun a0 => m_impl_dirAt_1 a0 x1 x2)) rfl kN162 (.cons (tp rfl) (.cons (tp rfl) .nil)) rfl (fun _ _ h => impl_dirAt_1_w h)) <|
    sc rfl (op_call (l := [.tmp 7, .tmp 8]) rfl kN161 (.cons (tp rfl) (.cons (tp rfl) .nil)) (slices_IndexFunc_impl_Dir_impl_Dir_w p2)) <|
    sc rfl (oA rfl (tp rfl)) <| .nil) [6] rfl (fun a4 w4 st4 => ?_)
  refine wp_ret ?_
  exact st4.ret rfl rfl h3

def m_impl_dirsOk_s0 (x0 : List Dir) (x1 : Int) (x2 : Int) (s4 : Int) : Option (Int ⊕ (Unit ⊕ Bool)) :=
if (cmpI .lss s4 (x0.length : Int)) = true then ((atI x0 s4).bind fun v9 =>
(m_impl_within v9.root (0 : Int) (2 : Int)).bind fun v17 =>
(gO ((!v17) == false) (m_impl_packageOk v9.pkg)).bind fun v18 =>
(gO (((!v17) || (!v18)) == false) (m_impl_within v9.stamp (0 : Int) x1)).bind fun v19 =>
(gO (((((!v17) || (!v18)) || (!v19)) || cmpI .gtr (v9.names.length : Int) x2) == false) (sliHO x0 s4)).bind fun v20 =>
(gO (((((!v17) || (!v18)) || (!v19)) || cmpI .gtr (v9.names.length : Int) x2) == false) (m_impl_dirAt v20 v9.root v9.pkg)).bind fun v21 =>
if (((((!v17) || (!v18)) || (!v19)) || cmpI .gtr (v9.names.length : Int) x2) || cmpI .geq v21 (0 : Int)) = true then (some (.inr (.inr false)))
else ((i64 (s4 + (1 : Int))).bind fun v33 =>
some (.inl v33)))
else (some (.inr (.inl ())))

def m_impl_dirsOk (x0 : List Dir) (x1 : Int) (x2 : Int) : Option Bool :=
Option.bind (α := Unit ⊕ Bool) (loopM (fun s4 => m_impl_dirsOk_s0 x0 x1 x2 s4) (0 : Int)) (Sum.elim (fun b2 =>
some (cmpI .leq (x0.length : Int) (20 : Int))) some)

theorem impl_dirsOk_w {x0 : List Dir} {x1 : Int} {x2 : Int} {r : Bool} (h : m_impl_dirsOk x0 x1 x2 = some r) : Fn Tryz.prog 74 [dt x0, dt x1, dt x2] (dt r) := by
  unfold m_impl_dirsOk at h
  refine fnx (fn := Tryz.f74) 1 Tryz.func74 rfl (of_decide_eq_true rfl) rfl (fun M w0 a0 st0 => ?_)
  refine st0.sq0 (
    sc rfl (oA rfl cB) <| .nil) [0, 1, 2] rfl (fun a1 w1 st1 => ?_)
  obtain ⟨o2, p2, k2⟩ := bs h
  refine wp_seq_join (fun a w => ∃ b2, o2 = .inl b2 ∧ (∃ M1 q2_0, Sx (Frm.of w0) 55 M M1 [oneB q2_0] [(0, dt x0)] [] a w)) ?_ ?_
  ·
    refine st1.sq0 (
      sc rfl (oM rfl (tp rfl)) <|
      sc rfl (op_lenL rfl kL37 (tp rfl)) <|
      sc rfl (oM rfl cI) <| .nil) [0, 1, 2, 9, 10, 11] rfl (fun a3 w3 st3 => ?_)
    refine wp_block ?_
    refine loop_model p2 (fun s4 a w => ∃ M1 q4_0, Sx (Frm.of w0) 55 M M1 [oneB q4_0] [(0, dt x0), (1, dt x1), (2, dt x2), (9, dt x0), (10, dt (x0.length : Int)), (11, dt s4)] [] a w) ⟨_, _, st3.sel [0, 1, 2, 9, 10, 11] rfl [] rfl trivial⟩ ?_
    rintro s4 x4 a4 w4 ⟨M4, q4_0, st4⟩ hs4 hx4
    have h5 : m_impl_dirsOk_s0 x0 x1 x2 s4 = some x4 := hs4
    unfold m_impl_dirsOk_s0 at h5
    refine st4.sq0 (
        sc rfl (oCI rfl (tp rfl) (tp rfl)) <| .nil) [0, 1, 2, 9, 10, 11, 12] rfl (fun a6 w6 st6 => ?_)
    refine wp_seq ?_
    refine st6.cs (c := 12) rfl h5 (fun c7 h7 => ?_) (fun c8 h8 => ?_)
    ·
      refine wp_skip ?_
      refine then_normal ?_
      refine wp_seq ?_
      refine wp_block ?_
      refine wp_seq ?_
      refine wp_region_list ?_
      obtain ⟨v9, p9, h10⟩ := bs h7
      refine st6.seg 3 (
          sc rfl (oM rfl (tp rfl)) <|
          sc rfl (xIdx rfl kS37 (tp rfl) (tp rfl) p9) <|
          sc rfl (op_load rfl kT49 (tp rfl)) <| .nil) [0, 1, 2, 9, 10, 11, 13, 15] rfl [] rfl trivial (fun a11 w11 st11 => ?_)
      refine st11.alloc 0 rfl rfl kZ49 zrDir (by simp) [0, 1, 2, 9, 10, 11, 13, 15] rfl [] rfl rfl (fun b13 M13 a13 w13 st13 => ?_)
      refine st13.seg 1 (
          sc rfl (oA rfl (tp rfl)) <| .nil) [0, 1, 2, 7, 9, 10, 11, 15] rfl [(8, 0)] rfl ⟨fun _ h => h, trivial⟩ (fun a14 w14 st14 => ?_)
      refine st14.store (sb := 8) 0 FldS.id rfl rfl rfl kT49 rfl rfl (tp rfl) rfl [0, 1, 2, 7, 9, 10, 11] rfl [] rfl rfl (fun M16 w16 st16 => ?_)
      refine wpList_nil ?_
      refine then_normal ?_
      refine wp_seq ?_
      obtain ⟨v17, p17, h22⟩ := bs h10
      obtain ⟨v18, p18, h23⟩ := bs h22
      obtain ⟨v19, p19, h24⟩ := bs h23
      obtain ⟨v20, p20, h25⟩ := bs h24
      obtain ⟨v21, p21, h26⟩ := bs h25
      refine st16.dr (D := [_, _, _, _, _, _, _, _, _, _, _, _, _, _, _, _, _, _, _, _, _, _, _, _, _, _, _, _, _, _, _, _, _, _, _]) Tryz_mixed [[], [0], [0, 1], [0, 1, 2], [0, 1, 2, 3], [0, 1, 2, 3, 4], [0, 1, 2, 3, 4, 5], [0, 1, 2, 3, 4, 5, 6], [0, 1, 2, 3, 4, 5, 6, 7], [0, 1, 2, 3, 4, 5, 6, 7, 8], [0, 1, 2, 3, 4, 5, 6, 7, 8, 9], [0, 1, 2, 3, 4, 5, 6, 7, 8, 9, 10], [0, 1, 2, 3, 4, 5, 6, 7, 8, 9, 10, 11], [0, 1, 2, 3, 4, 5, 6, 7, 8, 9, 10], [0, 1, 2, 3, 4, 5, 6, 7, 8, 9, 10, 11, 12, 13], [0, 1, 2, 3, 4, 5, 6, 7, 8, 9, 10, 11, 12, 13, 14], [0, 1, 2, 3, 4, 5, 6, 7, 8, 9, 10, 11, 12, 13, 14, 15], [0, 1, 2, 3, 4, 5, 6, 7, 8, 9, 10, 11, 12, 13, 14, 15, 16], [0, 1, 2, 3, 4, 5, 6, 7, 8, 9, 10, 11, 12, 13, 14, 15, 16, 17], [0, 1, 2, 3, 4, 5, 6, 7, 8, 9, 10, 11, 12, 13, 14, 15, 16, 17, 18], [0, 1, 2, 3, 4, 5, 6, 7, 8, 9, 10, 11, 12, 13, 14, 15, 16, 17, 18, 19], [0, 1, 2, 3, 4, 5, 6, 7, 8, 9, 10, 11, 12, 13, 14, 15, 16, 17], [0, 1, 2, 3, 4, 5, 6, 7, 8, 9, 10, 11, 12, 13, 14, 15, 16, 17, 18, 19, 20, 21], [0, 1, 2, 3, 4, 5, 6, 7, 8, 9, 10, 11, 12, 13, 14, 15, 16, 17, 18, 19, 20, 21, 22], [0, 1, 2, 3, 4, 5, 6, 7, 8, 9, 10, 11, 12, 13, 14, 15, 16, 17, 18, 19, 20, 21, 22, 23], [0, 1, 2, 3, 4, 5, 6, 7, 8, 9, 10, 11, 12, 13, 14, 15, 16, 17, 18, 19, 20, 21, 22, 23, 24], [0, 1, 2, 3, 4, 5, 6, 7, 8, 9, 10, 11, 12, 13, 14, 15, 16, 17, 18, 19, 20, 21, 22, 23, 24], [0, 1, 2, 3, 4, 5, 6, 7, 8, 9, 10, 11, 12, 13, 14, 15, 16, 17, 18, 19, 20, 21, 22, 23, 24, 25, 26], [0, 1, 2, 3, 4, 5, 6, 7, 8, 9, 10, 11, 12, 13, 14, 15, 16, 17, 18, 19, 20, 21, 22, 23, 24], [0, 1, 2, 3, 4, 5, 6, 7, 8, 9, 10, 11, 12, 13, 14, 15, 16, 17, 18, 19, 20, 21, 22, 23, 24, 28], [0, 1, 2, 3, 4, 5, 6, 7, 8, 9, 10, 11, 12, 13, 14, 15, 16, 17, 18, 19, 20, 21, 22, 23, 24], [0, 1, 2, 3, 4, 5, 6, 7, 8, 9, 10, 11, 12, 13, 14, 15, 16, 17, 18, 19, 20, 21, 22, 23, 24, 30], [0, 1, 2, 3, 4, 5, 6, 7, 8, 9, 10, 11, 12, 13, 14, 15, 16, 17, 18, 19, 20, 21, 22, 23, 24, 25, 26, 27, 28, 29, 30, 31], [0, 1, 2, 3, 4, 5, 6, 7, 8, 9, 10, 11, 12, 13, 14, 15, 16, 17, 18, 19, 20, 21, 22, 23, 24, 25, 26, 27, 28, 29, 30, 31, 32], [0, 1, 2, 3, 4, 5, 6, 7, 8, 9, 10, 11, 12, 13, 14, 15, 16, 17, 18, 19, 20, 21, 22, 23, 24, 25, 26, 27, 28, 29, 30, 31, 32, 33]] [[(8, none)], [(16, some 0)], [(17, some 1)], [(18, some 2)], [(19, some 3)], [(8, none), (20, some 4)], [(21, some 5), (20, some 4)], [(22, some 6), (20, some 4)], [(23, some 7), (20, some 4)], [(20, some 4), (24, some 8)], [(25, some 9)], [(8, none), (26, some 10)], [(27, some 11), (26, some 10)], [(1, none), (26, some 10)], [(28, some 12), (29, some 13), (26, some 10)], [(30, some 14), (26, some 10)], [(26, some 10), (31, some 15)], [(32, some 16)], [(8, none), (33, some 17)], [(34, some 18), (33, some 17)], [(35, some 19), (33, some 17)], [(2, none), (33, some 17)], [(36, some 20), (37, some 21), (33, some 17)], [(33, some 17), (38, some 22)], [(39, some 23)], [(0, none), (40, some 24)], [(7, none), (40, some 24)], [(41, some 25), (42, some 26), (40, some 24)], [(8, none), (40, some 24)], [(44, some 28), (40, some 24)], [(8, none), (40, some 24)], [(46, some 30), (40, some 24)], [(43, some 27), (45, some 29), (47, some 31), (40, some 24)], [(48, some 32), (40, some 24)], [(40, some 24), (49, some 33)]] (by decide +kernel) (
        rc rfl rfl (op_fieldBox Dir.fld0 rfl kF49_0 (tp rfl)) <|
          rc rfl rfl (op_loadBox rfl kT3 (tp rfl)) <|
          rc rfl rfl (op_call (l := [.tmp 17, .const (.int .i64 0), .const (.int .i64 2)]) rfl kN75 (.cons (tp rfl) (.cons cI (.cons cI .nil))) (impl_within_w p17)) <|
          rc rfl rfl (op_not rfl (tp rfl)) <|
          rc rfl rfl (oM rfl (tp rfl)) <|
          rg rfl rfl rfl (fun hg => op_fieldBox Dir.fld1 rfl kF49_1 (tp rfl)) <|
          rg rfl rfl rfl (fun hg => op_loadBox rfl kT9 (opd_g hg rfl)) <|
          rg rfl rfl rfl (fun hg => op_call (l := [.tmp 22]) rfl kN77 (.cons (opd_g hg rfl) .nil) (impl_packageOk_w (gh hg p18))) <|
          rg rfl rfl rfl (fun hg => op_not rfl (opd_g hg rfl)) <|
          rc rfl rfl (op_or rfl (tp rfl) (opd_tmp rfl)) <|
          rc rfl rfl (oM rfl (tp rfl)) <|
          rg rfl rfl rfl (fun hg => op_fieldBox Dir.fld2 rfl kF49_2 (tp rfl)) <|
          rg rfl rfl rfl (fun hg => op_loadBox rfl kT3 (opd_g hg rfl)) <|
          rg rfl rfl rfl (fun hg => oM rfl (tp rfl)) <|
          rg rfl rfl rfl (fun hg => op_call (l := [.tmp 28, .const (.int .i64 0), .tmp 29]) rfl kN75 (.cons (opd_g hg rfl) (.cons cI (.cons (opd_g hg rfl) .nil))) (impl_within_w (gh hg p19))) <|
          rg rfl rfl rfl (fun hg => op_not rfl (opd_g hg rfl)) <|
          rc rfl rfl (op_or rfl (tp rfl) (opd_tmp rfl)) <|
          rc rfl rfl (oM rfl (tp rfl)) <|
          rg rfl rfl rfl (fun hg => op_fieldBox Dir.fld3 rfl kF49_3 (tp rfl)) <|
          rg rfl rfl rfl (fun hg => op_loadBox rfl kT47 (opd_g hg rfl)) <|
          rg rfl rfl rfl (fun hg => op_lenL rfl kL47 (opd_g hg rfl)) <|
          rg rfl rfl rfl (fun hg => oM rfl (tp rfl)) <|
          rg rfl rfl rfl (fun hg => oCI rfl (opd_g hg rfl) (opd_g hg rfl)) <|
          rc rfl rfl (op_or rfl (tp rfl) (opd_tmp rfl)) <|
          rc rfl rfl (oM rfl (tp rfl)) <|
          rg rfl rfl rfl (fun hg => oM rfl (tp rfl)) <|
          rg rfl rfl rfl (fun hg => oM rfl (tp rfl)) <|
          rg rfl rfl rfl (fun hg => xSliH rfl kS37 (opd_g hg rfl) (opd_g hg rfl) (gh hg p20)) <|
          rg rfl rfl rfl (fun hg => op_fieldBox Dir.fld0 rfl kF49_0 (tp rfl)) <|
          rg rfl rfl rfl (fun hg => op_loadBox rfl kT3 (opd_g hg rfl)) <|
          rg rfl rfl rfl (fun hg => op_fieldBox Dir.fld1 rfl kF49_1 (tp rfl)) <|
          rg rfl rfl rfl (fun hg => op_loadBox rfl kT9 (opd_g hg rfl)) <|
          rg rfl rfl rfl (fun hg => op_call (l := [.tmp 43, .tmp 45, .tmp 47]) rfl kN118 (.cons (opd_g hg rfl) (.cons (opd_g hg rfl) (.cons (opd_g hg rfl) .nil))) (impl_dirAt_w (gh hg p21))) <|
          rg rfl rfl rfl (fun hg => oCI rfl (opd_g hg rfl) cI) <|
          rc rfl rfl (op_or rfl (tp rfl) (opd_tmp rfl)) <| .nil) [0, 1, 2, 9, 10, 11, 50] rfl [] rfl trivial (fun a27 w27 st27 => ?_)
      refine then_normal ?_
      refine st27.cs (c := 50) rfl h26 (fun c28 h28 => ?_) (fun c29 h29 => ?_)
      ·
        refine st27.sq0 (
            sc rfl (oA rfl cB) <| .nil) [6] rfl (fun a30 w30 st30 => ?_)
        refine wp_ret (blk_ret (thn_ret (thn_ret (blk_ret (thn_ret ?_)))))
        have h31 := lo h28 hx4
        have h32 := jo h31 k2
        exact st30.ret rfl rfl h32
      ·
        refine wp_skip ?_
        refine blk_normal ?_
        refine then_normal ?_
        obtain ⟨v33, p33, h34⟩ := bs h29
        refine st27.rg0 (
            sc rfl (xAr rfl (tp rfl) cI p33) <|
            sc rfl (oM rfl (tp rfl)) <| .nil) [0, 1, 2, 9, 10, 11] rfl (fun a35 w35 st35 => ?_)
        refine then_normal ?_
        exact ⟨_, (Option.some.inj h34).symm, ⟨_, _, st35.sel [0, 1, 2, 9, 10, 11] rfl [] rfl trivial⟩⟩
    ·
      refine wp_exit (thn_exit (thn_exit (exit_here ?_)))
      refine then_normal ?_
      have h36 := lo h8 hx4
      exact ⟨_, (Option.some.inj h36).symm, ⟨_, _, st6.sel [0] rfl [] rfl trivial⟩⟩
  · rintro a2 w2 ⟨b2, rfl, ⟨M2, q2_0, st2⟩⟩
    have h37 := jn k2
    refine st2.sq0 (
      sc rfl (oM rfl (tp rfl)) <|
      sc rfl (op_lenL rfl kL37 (tp rfl)) <|
      sc rfl (oCI rfl (tp rfl) cI) <|
      sc rfl (oA rfl (tp rfl)) <| .nil) [6] rfl (fun a38 w38 st38 => ?_)
    refine wp_ret ?_
    exact st38.ret rfl rfl h37

def m_impl_ValidFinder (x0 : Finder) : Option Bool :=
(m_impl_dirsOk x0.dirs (200 : Int) (12 : Int)).bind fun v2 =>
(gO (v2 == true) (m_impl_within x0.fills (0 : Int) (1000 : Int))).bind fun v3 =>
(gO ((v2 && v3) == true) (m_impl_within x0.hits (0 : Int) (1000 : Int))).bind fun v4 =>
some ((v2 && v3) && v4)

theorem impl_ValidFinder_w {x0 : Finder} {r : Bool} (h : m_impl_ValidFinder x0 = some r) : Fn Tryz.prog 19 [dt x0] (dt r) := by
  unfold m_impl_ValidFinder at h
  refine fnx (fn := Tryz.f19) 0 Tryz.func19 rfl (of_decide_eq_true rfl) rfl (fun M w0 a0 st0 => ?_)
  refine st0.sq0 (
    sc rfl (op_box rfl (tp rfl)) <|
    sc rfl (oA rfl cB) <| .nil) [1] rfl (fun a1 w1 st1 => ?_)
  obtain ⟨v2, p2, h5⟩ := bs h
  obtain ⟨v3, p3, h6⟩ := bs h5
  obtain ⟨v4, p4, h7⟩ := bs h6
  refine st1.sq0 (
    sc rfl (op_field Finder.fld0 rfl kF39_0 (tp rfl)) <|
    sc rfl (op_load rfl kT37 (tp rfl)) <|
    sc rfl (op_call (l := [.tmp 4, .const (.int .i64 200), .const (.int .i64 12)]) rfl kN74 (.cons (tp rfl) (.cons cI (.cons cI .nil))) (impl_dirsOk_w p2)) <|
    sc rfl (oM rfl (tp rfl)) <|
    sg rfl rfl (fun hg => op_field Finder.fld1 rfl kF39_1 (tp rfl)) <|
    sg rfl rfl (fun hg => op_load rfl kT3 (opd_g hg rfl)) <|
    sg rfl rfl (fun hg => op_call (l := [.tmp 8, .const (.int .i64 0), .const (.int .i64 1000)]) rfl kN75 (.cons (opd_g hg rfl) (.cons cI (.cons cI .nil))) (impl_within_w (gh hg p3))) <|
    sc rfl (op_and rfl (tp rfl) (opd_tmp rfl)) <|
    sc rfl (oM rfl (tp rfl)) <|
    sg rfl rfl (fun hg => op_field Finder.fld2 rfl kF39_2 (tp rfl)) <|
    sg rfl rfl (fun hg => op_load rfl kT3 (opd_g hg rfl)) <|
    sg rfl rfl (fun hg => op_call (l := [.tmp 13, .const (.int .i64 0), .const (.int .i64 1000)]) rfl kN75 (.cons (opd_g hg rfl) (.cons cI (.cons cI .nil))) (impl_within_w (gh hg p4))) <|
    sc rfl (op_and rfl (tp rfl) (opd_tmp rfl)) <|
    sc rfl (oA rfl (tp rfl)) <| .nil) [2] rfl (fun a8 w8 st8 => ?_)
  refine wp_ret ?_
  exact st8.ret rfl rfl h7

def m_impl_ValidDisk (x0 : Disk) : Option Bool :=
(m_impl_ValidTree x0.tree).bind fun v2 =>
(gO (v2 == true) (m_impl_within x0.clock (0 : Int) (200 : Int))).bind fun v3 =>
(gO ((v2 && v3) == true) (m_impl_dirsOk x0.dirs x0.clock (0 : Int))).bind fun v4 =>
some ((v2 && v3) && v4)

theorem impl_ValidDisk_w {x0 : Disk} {r : Bool} (h : m_impl_ValidDisk x0 = some r) : Fn Tryz.prog 20 [dt x0] (dt r) := by
  unfold m_impl_ValidDisk at h
  refine fnx (fn := Tryz.f20) 0 Tryz.func20 rfl (of_decide_eq_true rfl) rfl (fun M w0 a0 st0 => ?_)
  refine st0.sq0 (
    sc rfl (op_box rfl (tp rfl)) <|
    sc rfl (oA rfl cB) <| .nil) [1] rfl (fun a1 w1 st1 => ?_)
  obtain ⟨v2, p2, h5⟩ := bs h
  obtain ⟨v3, p3, h6⟩ := bs h5
  obtain ⟨v4, p4, h7⟩ := bs h6
  refine st1.sq0 (
    sc rfl (op_field Disk.fld0 rfl kF41_0 (tp rfl)) <|
    sc rfl (op_load rfl kT30 (tp rfl)) <|
    sc rfl (op_call (l := [.tmp 4]) rfl kN29 (.cons (tp rfl) .nil) (impl_ValidTree_w p2)) <|
    sc rfl (oM rfl (tp rfl)) <|
    sg rfl rfl (fun hg => op_field Disk.fld1 rfl kF41_1 (tp rfl)) <|
    sg rfl rfl (fun hg => op_load rfl kT3 (opd_g hg rfl)) <|
    sg rfl rfl (fun hg => op_call (l := [.tmp 8, .const (.int .i64 0), .const (.int .i64 200)]) rfl kN75 (.cons (opd_g hg rfl) (.cons cI (.cons cI .nil))) (impl_within_w (gh hg p3))) <|
    sc rfl (op_and rfl (tp rfl) (opd_tmp rfl)) <|
    sc rfl (oM rfl (tp rfl)) <|
    sg rfl rfl (fun hg => op_field Disk.fld2 rfl kF41_2 (tp rfl)) <|
    sg rfl rfl (fun hg => op_load rfl kT37 (opd_g hg rfl)) <|
    sg rfl rfl (fun hg => op_field Disk.fld1 rfl kF41_1 (tp rfl)) <|
    sg rfl rfl (fun hg => op_load rfl kT3 (opd_g hg rfl)) <|
    sg rfl rfl (fun hg => op_call (l := [.tmp 13, .tmp 15, .const (.int .i64 0)]) rfl kN74 (.cons (opd_g hg rfl) (.cons (opd_g hg rfl) (.cons cI .nil))) (impl_dirsOk_w (gh hg p4))) <|
    sc rfl (op_and rfl (tp rfl) (opd_tmp rfl)) <|
    sc rfl (oA rfl (tp rfl)) <| .nil) [2] rfl (fun a8 w8 st8 => ?_)
  refine wp_ret ?_
  exact st8.ret rfl rfl h7

def m_impl_stampOf (x0 : Disk) (x1 : Int) (x2 : Str) : Option Int :=
(m_impl_dirAt x0.dirs x1 x2).bind fun v2 =>
if (cmpI .lss v2 (0 : Int)) = true then (some (0 : Int))
else ((atI x0.dirs v2).bind fun v9 =>
some v9.stamp)

theorem impl_stampOf_w {x0 : Disk} {x1 : Int} {x2 : Str} {r : Int} (h : m_impl_stampOf x0 x1 x2 = some r) : Fn Tryz.prog 67 [dt x0, dt x1, dt x2] (dt r) := by
  unfold m_impl_stampOf at h
  refine fnx (fn := Tryz.f67) 0 Tryz.func67 rfl (of_decide_eq_true rfl) rfl (fun M w0 a0 st0 => ?_)
  refine st0.sq0 (
    sc rfl (op_box rfl (tp rfl)) <|
    sc rfl (oA rfl cI) <| .nil) [1, 2, 3] rfl (fun a1 w1 st1 => ?_)
  obtain ⟨v2, p2, h3⟩ := bs h
  refine st1.sq0 (
    sc rfl (op_field Disk.fld2 rfl kF41_2 (tp rfl)) <|
    sc rfl (op_load rfl kT37 (tp rfl)) <|
    sc rfl (oM rfl (tp rfl)) <|
    sc rfl (oM rfl (tp rfl)) <|
    sc rfl (op_call (l := [.tmp 9, .tmp 10, .tmp 11]) rfl kN118 (.cons (tp rfl) (.cons (tp rfl) (.cons (tp rfl) .nil))) (impl_dirAt_w p2)) <|
    sc rfl (oA rfl (tp rfl)) <| .nil) [3, 7] rfl (fun a4 w4 st4 => ?_)
  refine wp_seq ?_
  refine st4.sq0 (
    sc rfl (oM rfl (tp rfl)) <|
    sc rfl (oCI rfl (tp rfl) cI) <| .nil) [3, 7, 14] rfl (fun a5 w5 st5 => ?_)
  refine st5.cs (c := 14) rfl h3 (fun c6 h6 => ?_) (fun c7 h7 => ?_)
  ·
    refine st5.sq0 (
      sc rfl (oA rfl cI) <| .nil) [6] rfl (fun a8 w8 st8 => ?_)
    refine wp_ret (thn_ret ?_)
    exact st8.ret rfl rfl h6
  ·
    refine wp_skip ?_
    refine then_normal ?_
    obtain ⟨v9, p9, h10⟩ := bs h7
    refine st5.sq0 (
      sc rfl (op_field Disk.fld2 rfl kF41_2 (tp rfl)) <|
      sc rfl (op_load rfl kT37 (tp rfl)) <|
      sc rfl (oM rfl (tp rfl)) <|
      sc rfl (xIdx rfl kS37 (tp rfl) (tp rfl) p9) <|
      sc rfl (op_field Dir.fld2 rfl kF49_2 (tp rfl)) <|
      sc rfl (op_load rfl kT3 (tp rfl)) <|
      sc rfl (oA rfl (tp rfl)) <| .nil) [6] rfl (fun a11 w11 st11 => ?_)
    refine wp_ret ?_
    exact st11.ret rfl rfl h10

def m_internal_stringslite_Cut (x0 : Str) (x1 : Str) : Option (Str × Str × Bool) :=
(m_internal_stringslite_Index x0 x1).bind fun v2 =>
if (cmpI .geq v2 (0 : Int)) = true then ((cutHO x0 v2).bind fun v8 =>
(i64 (v2 + (x1.l.length : Int))).bind fun v9 =>
(cutLO x0 v9).bind fun v10 =>
some (v8, v10, true))
else (some (x0, (⟨[]⟩ : Str), false))

theorem internal_stringslite_Cut_w {x0 : Str} {x1 : Str} {r : Str × Str × Bool} (h : m_internal_stringslite_Cut x0 x1 = some r) : Fn Tryz.prog 164 [dt x0, dt x1] (dtup [dt r.1, dt r.2.1, dt r.2.2]) := by
  unfold m_internal_stringslite_Cut at h
  refine fnx (fn := Tryz.f164) 0 Tryz.func164 rfl (of_decide_eq_true rfl) rfl (fun M w0 a0 st0 => ?_)
  refine st0.sq0 (
    sc rfl (oA rfl (opd_str (by decide))) <|
    sc rfl (oA rfl (opd_str (by decide))) <|
    sc rfl (oA rfl cB) <| .nil) [0, 1] rfl (fun a1 w1 st1 => ?_)
  refine wp_seq ?_
  obtain ⟨v2, p2, h3⟩ := bs h
  refine st1.sq0 (
    sc rfl (oM rfl (tp rfl)) <|
    sc rfl (oM rfl (tp rfl)) <|
    sc rfl (op_call (l := [.tmp 8, .tmp 9]) rfl kN189 (.cons (tp rfl) (.cons (tp rfl) .nil)) (internal_stringslite_Index_w p2)) <|
    sc rfl (oA rfl (tp rfl)) <| .nil) [0, 1, 7] rfl (fun a4 w4 st4 => ?_)
  refine st4.sq0 (
    sc rfl (oM rfl (tp rfl)) <|
    sc rfl (oCI rfl (tp rfl) cI) <| .nil) [0, 1, 7, 12] rfl (fun a5 w5 st5 => ?_)
  refine st5.cs (c := 12) rfl h3 (fun c6 h6 => ?_) (fun c7 h7 => ?_)
  ·
    refine wp_seq ?_
    obtain ⟨v8, p8, h11⟩ := bs h6
    obtain ⟨v9, p9, h12⟩ := bs h11
    obtain ⟨v10, p10, h13⟩ := bs h12
    refine st5.dr (D := [_, _, _, _, _, _, _, _, _, _, _, _]) Tryz_mixed [[], [], [0, 1], [], [], [], [5], [4, 5, 6], [3, 4, 5, 6, 7], [0, 1, 2], [0, 1, 2, 3, 4, 5, 6, 7, 8, 9], [0, 1, 2, 3, 4, 5, 6, 7, 8, 9, 10]] [[(0, none)], [(7, none)], [(13, some 0), (14, some 1)], [(0, none)], [(7, none)], [(1, none)], [(18, some 5)], [(17, some 4), (19, some 6)], [(16, some 3), (20, some 7)], [(15, some 2)], [(21, some 8)], []] (by decide +kernel) (
      rc rfl rfl (oM rfl (tp rfl)) <|
      rc rfl rfl (oM rfl (tp rfl)) <|
      rc rfl rfl (xCutH rfl kX9 (tp rfl) (tp rfl) p8) <|
      rc rfl rfl (oM rfl (tp rfl)) <|
      rc rfl rfl (oM rfl (tp rfl)) <|
      rc rfl rfl (oM rfl (tp rfl)) <|
      rc rfl rfl (op_lenS rfl kX9 (tp rfl)) <|
      rc rfl rfl (xAr rfl (tp rfl) (tp rfl) p9) <|
      rc rfl rfl (xCutL rfl kX9 (tp rfl) (tp rfl) p10) <|
      rc rfl rfl (oA rfl (tp rfl)) <|
      rc rfl rfl (oA rfl (tp rfl)) <|
      rc rfl rfl (oA rfl cB) <| .nil) [4, 5, 6] rfl [] rfl trivial (fun a14 w14 st14 => ?_)
    refine then_normal ?_
    refine wp_ret (thn_ret ?_)
    obtain rfl := Option.some.inj h13
    exact st14.ret3 rfl (st14.frozen (t := 4) rfl) (st14.frozen (t := 5) rfl) (st14.frozen (t := 6) rfl) ⟨rfl, rfl, rfl⟩ rfl
  ·
    refine wp_skip ?_
    refine then_normal ?_
    refine st5.sq0 (
      sc rfl (oM rfl (tp rfl)) <|
      sc rfl (oA rfl (tp rfl)) <|
      sc rfl (oA rfl (opd_str (by decide))) <|
      sc rfl (oA rfl cB) <| .nil) [4, 5, 6] rfl (fun a15 w15 st15 => ?_)
    refine wp_ret ?_
    obtain rfl := Option.some.inj h7
    exact st15.ret3 rfl (st15.frozen (t := 4) rfl) (st15.frozen (t := 5) rfl) (st15.frozen (t := 6) rfl) ⟨rfl, rfl, rfl⟩ rfl

def m_strings_Cut (x0 : Str) (x1 : Str) : Option (Str × Str × Bool) :=
(m_internal_stringslite_Cut x0 x1).bind fun v2 =>
some (v2.1, v2.2.1, v2.2.2)

theorem strings_Cut_w {x0 : Str} {x1 : Str} {r : Str × Str × Bool} (h : m_strings_Cut x0 x1 = some r) : Fn Tryz.prog 120 [dt x0, dt x1] (dtup [dt r.1, dt r.2.1, dt r.2.2]) := by
  unfold m_strings_Cut at h
  refine fnx (fn := Tryz.f120) 0 Tryz.func120 rfl (of_decide_eq_true rfl) rfl (fun M w0 a0 st0 => ?_)
  refine st0.sq0 (
    sc rfl (oA rfl (opd_str (by decide))) <|
    sc rfl (oA rfl (opd_str (by decide))) <|
    sc rfl (oA rfl cB) <| .nil) [0, 1] rfl (fun a1 w1 st1 => ?_)
  obtain ⟨v2, p2, h3⟩ := bs h
  refine st1.sq0 (
    sc rfl (oM rfl (tp rfl)) <|
    sc rfl (oM rfl (tp rfl)) <|
    sc rfl (op_call (l := [.tmp 7, .tmp 8]) rfl kN164 (.cons (tp rfl) (.cons (tp rfl) .nil)) (internal_stringslite_Cut_w p2)) <|
    sc rfl (xExt (i := 0) rfl (tp rfl) rfl) <|
    sc rfl (xExt (i := 1) rfl (tp rfl) rfl) <|
    sc rfl (xExt (i := 2) rfl (tp rfl) rfl) <|
    sc rfl (oA rfl (tp rfl)) <|
    sc rfl (oA rfl (tp rfl)) <|
    sc rfl (oA rfl (tp rfl)) <| .nil) [4, 5, 6] rfl (fun a4 w4 st4 => ?_)
  refine wp_ret ?_
  obtain rfl := Option.some.inj h3
  exact st4.ret3 rfl (st4.frozen (t := 4) rfl) (st4.frozen (t := 5) rfl) (st4.frozen (t := 6) rfl) ⟨rfl, rfl, rfl⟩ rfl

def m_impl_listDir_s0 (x0 : Tree) (x1 : Int) (x2 : Str) (s5 : (List Str) × Int) : Option (((List Str) × Int) ⊕ (List Str)) :=
if (cmpI .lss s5.2 (x0.files.length : Int)) = true then (Option.bind (α := (List Str)) ((atI x0.files s5.2).bind fun v11 =>
if (cmpI .neq v11.root x1) = true then (some s5.1)
else (if (decide (v11.pkg = x2)) = true then (Option.bind (α := (List Str)) (if v11.init = true then ((appO 16 s5.1 ([(⟨[42]⟩ : Str)] : List Str)).bind fun v31 =>
some v31)
else ((appO 16 s5.1 ([v11.name] : List Str)).bind fun v37 =>
some v37)) fun o24 =>
some o24)
else ((m_impl_IsUnder v11.pkg x2).bind fun v41 =>
if v41 = true then (Option.bind (α := Str) (if (decide (x2 ≠ (⟨[]⟩ : Str))) = true then ((i64 ((x2.l.length : Int) + (1 : Int))).bind fun v51 =>
(cutLO v11.pkg v51).bind fun v52 =>
some v52)
else (some v11.pkg)) fun o47 =>
(m_strings_Cut o47 (⟨[46]⟩ : Str)).bind fun v57 =>
(catO v57.1 (⟨[47]⟩ : Str)).bind fun v60 =>
(appO 16 s5.1 ([v60] : List Str)).bind fun v65 =>
some v65)
else (some s5.1)))) fun o10 =>
(i64 (s5.2 + (1 : Int))).bind fun v69 =>
some (.inl (o10, v69)))
else (some (.inr s5.1))

def m_impl_listDir (x0 : Tree) (x1 : Int) (x2 : Str) : Option (List Str) :=
Option.bind (α := (List Str)) (loopM (fun s5 => m_impl_listDir_s0 x0 x1 x2 s5) ([], (0 : Int))) fun o3 =>
(m_impl_sorted o3).bind fun v77 =>
some v77

theorem impl_listDir_w {x0 : Tree} {x1 : Int} {x2 : Str} {r : List Str} (h : m_impl_listDir x0 x1 x2 = some r) : FnOwn Tryz.prog 68 [dt x0, dt x1, dt x2] 9 r := by
  unfold m_impl_listDir at h
  refine fnxO (fn := Tryz.f68) 2 Tryz.func68 rfl (of_decide_eq_true rfl) rfl (fun M w0 a0 st0 => ?_)
  refine st0.sq0 (
    sc rfl (op_box rfl (tp rfl)) <|
    sc rfl (oA rfl (opd_nilTip (α := Str) (e := 9))) <| .nil) [1, 2, 3] rfl (fun a1 w1 st1 => ?_)
  refine st1.sq (
    sc rfl (op_lit0 (α := Str) (e := 9) rfl kS47) <|
    sc rfl (oA rfl (tp rfl)) <| .nil) [1, 2, 3] rfl [(7, 0)] rfl ⟨fun _ h => (by cases h), trivial⟩ (fun a2 w2 st2 => ?_)
  obtain ⟨o3, p3, k3⟩ := bs h
  refine wp_seq_join (fun a w => ∃ M1 q3_0 q3_1, Sx (Frm.of w0) 68 M M1 [oneB q3_0, oneB q3_1] [] [(7, 0, dtip q3_0 9 o3)] a w) ?_ ?_
  ·
    refine st2.sq (
      sc rfl (op_field Tree.fld0 rfl kF30_0 (tp rfl)) <|
      sc rfl (op_load rfl kT28 (tp rfl)) <|
      sc rfl (op_lenL rfl kL28 (tp rfl)) <|
      sc rfl (oM rfl cI) <| .nil) [1, 2, 16, 17, 18] rfl [(7, 0)] rfl ⟨fun _ h => (by cases h), trivial⟩ (fun a4 w4 st4 => ?_)
    refine wp_block ?_
    refine loop_model p3 (fun s5 a w => ∃ M1 q5_0 q5_1, Sx (Frm.of w0) 68 M M1 [oneB q5_0, oneB q5_1] [(1, dt x1), (2, dt x2), (16, dt x0.files), (17, dt (x0.files.length : Int)), (18, dt s5.2)] [(7, 0, dtip q5_0 9 s5.1)] a w) ⟨_, _, _, st4.sel [1, 2, 16, 17, 18] rfl [(7, 0)] rfl ⟨fun _ h => (by cases h), trivial⟩⟩ ?_
    rintro s5 x5 a5 w5 ⟨M5, q5_0, q5_1, st5⟩ hs5 hx5
    have h6 : m_impl_listDir_s0 x0 x1 x2 s5 = some x5 := hs5
    unfold m_impl_listDir_s0 at h6
    refine st5.sq (
        sc rfl (oCI rfl (tp rfl) (tp rfl)) <| .nil) [1, 2, 16, 17, 18, 19] rfl [(7, 0)] rfl ⟨fun _ h => h, trivial⟩ (fun a7 w7 st7 => ?_)
    refine wp_seq ?_
    refine st7.cs (c := 19) rfl h6 (fun c8 h8 => ?_) (fun c9 h9 => ?_)
    ·
      refine wp_skip ?_
      refine then_normal ?_
      obtain ⟨o10, p10, k10⟩ := bs h8
      refine wp_seq_join (fun a w => ∃ M1 q10_0 q10_1, Sx (Frm.of w0) 68 M M1 [oneB q10_0, oneB q10_1] [(1, dt x1), (2, dt x2), (16, dt x0.files), (17, dt (x0.files.length : Int)), (18, dt s5.2)] [(7, 0, dtip q10_0 9 o10)] a w) ?_ ?_
      ·
        refine wp_block ?_
        refine wp_seq ?_
        refine wp_region_list ?_
        obtain ⟨v11, p11, h12⟩ := bs p10
        refine st7.seg 2 (
            sc rfl (xIdx rfl kS28 (tp rfl) (tp rfl) p11) <|
            sc rfl (op_load rfl kT94 (tp rfl)) <| .nil) [1, 2, 16, 17, 18, 21] rfl [(7, 0)] rfl ⟨fun _ h => h, trivial⟩ (fun a13 w13 st13 => ?_)
        refine st13.alloc 1 rfl rfl kZ94 zrFile (by simp) [1, 2, 16, 17, 18, 21] rfl [7] rfl rfl (fun b15 M15 a15 w15 st15 => ?_)
        refine st15.store (sb := 9) 1 FldS.id rfl rfl rfl kT94 rfl rfl (tp rfl) rfl [1, 2, 16, 17, 18] rfl [7] rfl rfl (fun M17 w17 st17 => ?_)
        refine wpList_nil ?_
        refine then_normal ?_
        refine wp_seq ?_
        refine st17.sq (
            sc rfl (op_fieldBox File.fld0 rfl kF94_0 (tp rfl)) <|
            sc rfl (op_loadBox rfl kT3 (tp rfl)) <|
            sc rfl (oM rfl (tp rfl)) <|
            sc rfl (oCI rfl (tp rfl) (tp rfl)) <| .nil) [1, 2, 16, 17, 18, 25] rfl [(7, 0), (9, 1)] rfl ⟨fun _ h => h, ⟨fun _ h => h, trivial⟩⟩ (fun a18 w18 st18 => ?_)
        refine st18.cs (c := 25) rfl h12 (fun c19 h19 => ?_) (fun c20 h20 => ?_)
        ·
          refine wp_exit (thn_exit (exit_here ?_))
          refine then_normal ?_
          obtain rfl := Option.some.inj h19
          exact ⟨_, _, _, st18.sel [1, 2, 16, 17, 18] rfl [(7, 0)] rfl ⟨fun _ h => h, trivial⟩⟩
        ·
          refine wp_skip ?_
          refine then_normal ?_
          refine wp_seq ?_
          refine st18.sq (
              sc rfl (op_fieldBox File.fld1 rfl kF94_1 (tp rfl)) <|
              sc rfl (op_loadBox rfl kT9 (tp rfl)) <|
              sc rfl (oM rfl (tp rfl)) <|
              sc rfl (op_eqS rfl (tp rfl) (tp rfl)) <| .nil) [1, 2, 16, 17, 18, 29] rfl [(7, 0), (9, 1)] rfl ⟨fun _ h => h, ⟨fun _ h => h, trivial⟩⟩ (fun a21 w21 st21 => ?_)
          refine st21.cs (c := 29) rfl h20 (fun c22 h22 => ?_) (fun c23 h23 => ?_)
          ·
            obtain ⟨o24, p24, k24⟩ := bs h22
            refine wp_seq_join (fun a w => ∃ M1 q24_0 q24_1, Sx (Frm.of w0) 68 M M1 [oneB q24_0, oneB q24_1] [(1, dt x1), (2, dt x2), (16, dt x0.files), (17, dt (x0.files.length : Int)), (18, dt s5.2)] [(7, 0, dtip q24_0 9 o24)] a w) ?_ ?_
            ·
              refine st21.sq (
                  sc rfl (op_fieldBox File.fld3 rfl kF94_3 (tp rfl)) <|
                  sc rfl (op_loadBox rfl kT4 (tp rfl)) <| .nil) [1, 2, 16, 17, 18, 31] rfl [(7, 0), (9, 1)] rfl ⟨fun _ h => h, ⟨fun _ h => h, trivial⟩⟩ (fun a25 w25 st25 => ?_)
              refine st25.cs (c := 31) rfl p24 (fun c26 h26 => ?_) (fun c27 h27 => ?_)
              ·
                refine wp_region_list ?_
                refine st25.seg 2 (
                    sc rfl (oM rfl (tp rfl)) <|
                    sc rfl (op_lit (opds := [_]) rfl kS47 kY47 rfl rfl (by decide) (.cons (opd_str (by decide)) .nil)) <| .nil) [1, 2, 16, 17, 18, 33] rfl [(7, 0), (32, 0)] rfl ⟨fun _ h => h, ⟨fun _ h => h, trivial⟩⟩ (fun a28 w28 st28 => ?_)
                obtain ⟨v31, p31, h32⟩ := bs h26
                refine st28.app 0 rfl rfl kE47 rfl rfl rfl row_dt p31 [1, 2, 16, 17, 18] rfl [] rfl rfl (fun g30 M30 a30 w30 st30 => ?_)
                refine st30.seg 1 (
                    sc rfl (oA rfl (tp rfl)) <| .nil) [1, 2, 16, 17, 18] rfl [(7, 0)] rfl ⟨fun _ h => h, trivial⟩ (fun a33 w33 st33 => ?_)
                refine wpList_nil ?_
                refine then_normal ?_
                obtain rfl := Option.some.inj h32
                exact ⟨_, _, _, st33.sel [1, 2, 16, 17, 18] rfl [(7, 0)] rfl ⟨fun _ h => h, trivial⟩⟩
              ·
                refine wp_region_list ?_
                refine st25.seg 4 (
                    sc rfl (oM rfl (tp rfl)) <|
                    sc rfl (op_fieldBox File.fld2 rfl kF94_2 (tp rfl)) <|
                    sc rfl (op_loadBox rfl kT9 (tp rfl)) <|
                    sc rfl (op_lit (opds := [.tmp 37]) rfl kS47 kY47 rfl rfl (by decide) (.cons (tp rfl) .nil)) <| .nil) [1, 2, 16, 17, 18, 38] rfl [(7, 0), (35, 0)] rfl ⟨fun _ h => h, ⟨fun _ h => h, trivial⟩⟩ (fun a34 w34 st34 => ?_)
                obtain ⟨v37, p37, h38⟩ := bs h27
                refine st34.app 0 rfl rfl kE47 rfl rfl rfl row_dt p37 [1, 2, 16, 17, 18] rfl [] rfl rfl (fun g36 M36 a36 w36 st36 => ?_)
                refine st36.seg 1 (
                    sc rfl (oA rfl (tp rfl)) <| .nil) [1, 2, 16, 17, 18] rfl [(7, 0)] rfl ⟨fun _ h => h, trivial⟩ (fun a39 w39 st39 => ?_)
                refine wpList_nil ?_
                refine then_normal ?_
                obtain rfl := Option.some.inj h38
                exact ⟨_, _, _, st39.sel [1, 2, 16, 17, 18] rfl [(7, 0)] rfl ⟨fun _ h => h, trivial⟩⟩
            · rintro a24 w24 ⟨M24, q24_0, q24_1, st24⟩
              have h40 := k24
              refine wp_exit (thn_exit (exit_here ?_))
              refine then_normal ?_
              obtain rfl := Option.some.inj h40
              exact ⟨_, _, _, st24.sel [1, 2, 16, 17, 18] rfl [(7, 0)] rfl ⟨fun _ h => h, trivial⟩⟩
          ·
            refine wp_skip ?_
            refine then_normal ?_
            obtain ⟨v41, p41, h42⟩ := bs h23
            refine st21.sq (
                sc rfl (op_fieldBox File.fld1 rfl kF94_1 (tp rfl)) <|
                sc rfl (op_loadBox rfl kT9 (tp rfl)) <|
                sc rfl (oM rfl (tp rfl)) <|
                sc rfl (op_call (l := [.tmp 41, .tmp 42]) rfl kN119 (.cons (tp rfl) (.cons (tp rfl) .nil)) (impl_IsUnder_w p41)) <| .nil) [1, 2, 16, 17, 18, 43] rfl [(7, 0), (9, 1)] rfl ⟨fun _ h => h, ⟨fun _ h => h, trivial⟩⟩ (fun a43 w43 st43 => ?_)
            refine st43.cs (c := 43) rfl h42 (fun c44 h44 => ?_) (fun c45 h45 => ?_)
            ·
              refine st43.sq (
                  sc rfl (op_fieldBox File.fld1 rfl kF94_1 (tp rfl)) <|
                  sc rfl (op_loadBox rfl kT9 (tp rfl)) <|
                  sc rfl (oA rfl (tp rfl)) <| .nil) [1, 2, 10, 16, 17, 18] rfl [(7, 0), (9, 1)] rfl ⟨fun _ h => h, ⟨fun _ h => h, trivial⟩⟩ (fun a46 w46 st46 => ?_)
              obtain ⟨o47, p47, k47⟩ := bs h44
              refine wp_seq_join (fun a w => ∃ M1 q47_0 q47_1, Sx (Frm.of w0) 68 M M1 [oneB q47_0, oneB q47_1] [(1, dt x1), (2, dt x2), (10, dt o47), (16, dt x0.files), (17, dt (x0.files.length : Int)), (18, dt s5.2)] [(7, 0, dtip q47_0 9 s5.1)] a w) ?_ ?_
              ·
                refine st46.sq (
                    sc rfl (oM rfl (tp rfl)) <|
                    sc rfl (op_neS rfl (tp rfl) (opd_str (by decide))) <| .nil) [1, 2, 10, 16, 17, 18, 47] rfl [(7, 0), (9, 1)] rfl ⟨fun _ h => h, ⟨fun _ h => h, trivial⟩⟩ (fun a48 w48 st48 => ?_)
                refine st48.cs (c := 47) rfl p47 (fun c49 h49 => ?_) (fun c50 h50 => ?_)
                ·
                  obtain ⟨v51, p51, h53⟩ := bs h49
                  obtain ⟨v52, p52, h54⟩ := bs h53
                  refine st48.rg (
                      sc rfl (op_fieldBox File.fld1 rfl kF94_1 (tp rfl)) <|
                      sc rfl (op_loadBox rfl kT9 (tp rfl)) <|
                      sc rfl (oM rfl (tp rfl)) <|
                      sc rfl (op_lenS rfl kX9 (tp rfl)) <|
                      sc rfl (xAr rfl (tp rfl) cI p51) <|
                      sc rfl (xCutL rfl kX9 (tp rfl) (tp rfl) p52) <|
                      sc rfl (oA rfl (tp rfl)) <| .nil) [1, 2, 10, 16, 17, 18] rfl [(7, 0)] rfl ⟨fun _ h => h, trivial⟩ (fun a55 w55 st55 => ?_)
                  refine then_normal ?_
                  obtain rfl := Option.some.inj h54
                  exact ⟨_, _, _, st55.sel [1, 2, 10, 16, 17, 18] rfl [(7, 0)] rfl ⟨fun _ h => h, trivial⟩⟩
                ·
                  refine wp_skip ?_
                  refine then_normal ?_
                  obtain rfl := Option.some.inj h50
                  exact ⟨_, _, _, st48.sel [1, 2, 10, 16, 17, 18] rfl [(7, 0)] rfl ⟨fun _ h => h, trivial⟩⟩
              · rintro a47 w47 ⟨M47, q47_0, q47_1, st47⟩
                have h56 := k47
                obtain ⟨v57, p57, h58⟩ := bs h56
                refine st47.sq (
                    sc rfl (oM rfl (tp rfl)) <|
                    sc rfl (op_call (l := [.tmp 55, _]) rfl kN120 (.cons (tp rfl) (.cons (opd_str (by decide)) .nil)) (strings_Cut_w p57)) <|
                    sc rfl (oM rfl (tp rfl)) <|
                    sc rfl (xExt (i := 0) rfl (tp rfl) rfl) <|
                    sc rfl (xExt (i := 1) rfl (tp rfl) rfl) <|
                    sc rfl (xExt (i := 2) rfl (tp rfl) rfl) <|
                    sc rfl (oA rfl (tp rfl)) <|
                    sc rfl (oA rfl (tp rfl)) <|
                    sc rfl (oA rfl (tp rfl)) <| .nil) [1, 2, 11, 16, 17, 18] rfl [(7, 0)] rfl ⟨fun _ h => h, trivial⟩ (fun a59 w59 st59 => ?_)
                refine wp_region_list ?_
                obtain ⟨v60, p60, h61⟩ := bs h58
                refine st59.seg 4 (
                    sc rfl (oM rfl (tp rfl)) <|
                    sc rfl (oM rfl (tp rfl)) <|
                    sc rfl (xCat rfl (tp rfl) (opd_str (by decide)) p60) <|
                    sc rfl (op_lit (opds := [.tmp 62]) rfl kS47 kY47 rfl rfl (by decide) (.cons (tp rfl) .nil)) <| .nil) [1, 2, 16, 17, 18, 63] rfl [(7, 0), (60, 0)] rfl ⟨fun _ h => h, ⟨fun _ h => h, trivial⟩⟩ (fun a62 w62 st62 => ?_)
                obtain ⟨v65, p65, h66⟩ := bs h61
                refine st62.app 0 rfl rfl kE47 rfl rfl rfl row_dt p65 [1, 2, 16, 17, 18] rfl [] rfl rfl (fun g64 M64 a64 w64 st64 => ?_)
                refine st64.seg 1 (
                    sc rfl (oA rfl (tp rfl)) <| .nil) [1, 2, 16, 17, 18] rfl [(7, 0)] rfl ⟨fun _ h => h, trivial⟩ (fun a67 w67 st67 => ?_)
                refine wpList_nil ?_
                refine blk_normal ?_
                refine then_normal ?_
                obtain rfl := Option.some.inj h66
                exact ⟨_, _, _, st67.sel [1, 2, 16, 17, 18] rfl [(7, 0)] rfl ⟨fun _ h => h, trivial⟩⟩
            ·
              refine wp_skip ?_
              refine blk_normal ?_
              refine then_normal ?_
              obtain rfl := Option.some.inj h45
              exact ⟨_, _, _, st43.sel [1, 2, 16, 17, 18] rfl [(7, 0)] rfl ⟨fun _ h => h, trivial⟩⟩
      · rintro a10 w10 ⟨M10, q10_0, q10_1, st10⟩
        have h68 := k10
        obtain ⟨v69, p69, h70⟩ := bs h68
        refine st10.rg (
            sc rfl (xAr rfl (tp rfl) cI p69) <|
            sc rfl (oM rfl (tp rfl)) <| .nil) [1, 2, 16, 17, 18] rfl [(7, 0)] rfl ⟨fun _ h => h, trivial⟩ (fun a71 w71 st71 => ?_)
        refine then_normal ?_
        exact ⟨_, (Option.some.inj h70).symm, ⟨_, _, _, st71.sel [1, 2, 16, 17, 18] rfl [(7, 0)] rfl ⟨fun _ h => h, trivial⟩⟩⟩
    ·
      refine wp_exit (thn_exit (thn_exit (exit_here ?_)))
      refine then_normal ?_
      have h72 := lo h9 hx5
      obtain rfl := Option.some.inj h72
      exact ⟨_, _, _, st7.sel [] rfl [(7, 0)] rfl ⟨fun _ h => h, trivial⟩⟩
  · rintro a3 w3 ⟨M3, q3_0, q3_1, st3⟩
    have h73 := k3
    refine wp_seq ?_
    refine wp_region_list ?_
    refine st3.seg 1 (
      sc rfl (oM rfl (tp rfl)) <| .nil) [] rfl [(66, 0)] rfl ⟨fun _ h => h, trivial⟩ (fun a74 w74 st74 => ?_)
    obtain ⟨v77, p77, h78⟩ := bs h73
    refine st74.take (l := []) 0 rfl rfl kN81 rfl rfl .nil (impl_sorted_w p77) [] rfl [] rfl rfl (fun g76 M76 a76 w76 st76 => ?_)
    refine st76.seg 1 (
      sc rfl (oA rfl (tp rfl)) <| .nil) [] rfl [(6, 0)] rfl ⟨fun _ h => h, trivial⟩ (fun a79 w79 st79 => ?_)
    refine wpList_nil ?_
    refine then_normal ?_
    refine wp_ret ?_
    exact st79.ret_own 0 rfl rfl (fun _ h => h) h78

def m_impl_StaleDirs_s0 (x0 : Finder) (x1 : Disk) (s13 : (List Int) × Int) : Option (((List Int) × Int) ⊕ (List Int)) :=
if (cmpI .lss s13.2 (x0.dirs.length : Int)) = true then (Option.bind (α := (List Int)) ((atI x0.dirs s13.2).bind fun v19 =>
(m_impl_stampOf x1 v19.root v19.pkg).bind fun v27 =>
(gO (cmpI .eql v19.stamp v27 == true) (m_impl_listDir x1.tree v19.root v19.pkg)).bind fun v28 =>
(gO (cmpI .eql v19.stamp v27 == true) (m_slices_Equal_string_string v19.names v28)).bind fun v29 =>
if (cmpI .eql v19.stamp v27 && (!v29)) = true then ((appO 8 s13.1 ([s13.2] : List Int)).bind fun v39 =>
some v39)
else (some s13.1)) fun o18 =>
(i64 (s13.2 + (1 : Int))).bind fun v43 =>
some (.inl (o18, v43)))
else (some (.inr s13.1))

def m_impl_StaleDirs (x0 : Finder) (x1 : Disk) : Option (List Int) :=
(m_impl_ValidFinder x0).bind fun v3 =>
(gO ((!v3) == false) (m_impl_ValidDisk x1)).bind fun v4 =>
if ((!v3) || (!v4)) = true then (some [])
else (Option.bind (α := (List Int)) (loopM (fun s13 => m_impl_StaleDirs_s0 x0 x1 s13) ([], (0 : Int))) fun o11 =>
some o11)

theorem impl_StaleDirs_w {x0 : Finder} {x1 : Disk} {r : List Int} (h : m_impl_StaleDirs x0 x1 = some r) : FnOwn Tryz.prog 16 [dt x0, dt x1] 3 r := by
  unfold m_impl_StaleDirs at h
  refine fnxO (fn := Tryz.f16) 2 Tryz.func16 rfl (of_decide_eq_true rfl) rfl (fun M w0 a0 st0 => ?_)
  refine st0.sq0 (
    sc rfl (op_box rfl (tp rfl)) <|
    sc rfl (op_box rfl (tp rfl)) <|
    sc rfl (oA rfl (opd_nilTip (α := Int) (e := 3))) <| .nil) [2, 3] rfl (fun a1 w1 st1 => ?_)
  refine st1.sq (
    sc rfl (op_lit0 (α := Int) (e := 3) rfl kS25) <|
    sc rfl (oA rfl (tp rfl)) <| .nil) [2, 3] rfl [(5, 0)] rfl ⟨fun _ h => (by cases h), trivial⟩ (fun a2 w2 st2 => ?_)
  refine wp_seq ?_
  obtain ⟨v3, p3, h5⟩ := bs h
  obtain ⟨v4, p4, h6⟩ := bs h5
  refine st2.sq (
    sc rfl (op_load rfl kT39 (tp rfl)) <|
    sc rfl (op_call (l := [.tmp 9]) rfl kN19 (.cons (tp rfl) .nil) (impl_ValidFinder_w p3)) <|
    sc rfl (op_not rfl (tp rfl)) <|
    sc rfl (oM rfl (tp rfl)) <|
    sg rfl rfl (fun hg => op_load rfl kT41 (tp rfl)) <|
    sg rfl rfl (fun hg => op_call (l := [.tmp 13]) rfl kN20 (.cons (opd_g hg rfl) .nil) (impl_ValidDisk_w (gh hg p4))) <|
    sg rfl rfl (fun hg => op_not rfl (opd_g hg rfl)) <|
    sc rfl (op_or rfl (tp rfl) (opd_tmp rfl)) <| .nil) [2, 3, 16] rfl [(5, 0)] rfl ⟨fun _ h => (by cases h), trivial⟩ (fun a7 w7 st7 => ?_)
  refine st7.cs (c := 16) rfl h6 (fun c8 h8 => ?_) (fun c9 h9 => ?_)
  ·
    refine st7.sq (
      sc rfl (oM rfl (tp rfl)) <|
      sc rfl (oA rfl (tp rfl)) <| .nil) [] rfl [(4, 0)] rfl ⟨fun _ h => (by cases h), trivial⟩ (fun a10 w10 st10 => ?_)
    refine wp_ret (thn_ret ?_)
    exact st10.ret_own 0 rfl rfl (fun _ h => (by cases h)) h8
  ·
    refine wp_skip ?_
    refine then_normal ?_
    obtain ⟨o11, p11, k11⟩ := bs h9
    refine wp_seq_join (fun a w => ∃ M1 q11_0 q11_1, Sx (Frm.of w0) 54 M M1 [oneB q11_0, oneB q11_1] [] [(5, 0, dtip q11_0 3 o11)] a w) ?_ ?_
    ·
      refine st7.sq (
        sc rfl (op_field Finder.fld0 rfl kF39_0 (tp rfl)) <|
        sc rfl (op_load rfl kT37 (tp rfl)) <|
        sc rfl (op_lenL rfl kL37 (tp rfl)) <|
        sc rfl (oM rfl cI) <| .nil) [3, 19, 20, 21] rfl [(5, 0)] rfl ⟨fun _ h => (by cases h), trivial⟩ (fun a12 w12 st12 => ?_)
      refine wp_block ?_
      refine loop_model p11 (fun s13 a w => ∃ M1 q13_0 q13_1, Sx (Frm.of w0) 54 M M1 [oneB q13_0, oneB q13_1] [(3, dptr x1), (19, dt x0.dirs), (20, dt (x0.dirs.length : Int)), (21, dt s13.2)] [(5, 0, dtip q13_0 3 s13.1)] a w) ⟨_, _, _, st12.sel [3, 19, 20, 21] rfl [(5, 0)] rfl ⟨fun _ h => (by cases h), trivial⟩⟩ ?_
      rintro s13 x13 a13 w13 ⟨M13, q13_0, q13_1, st13⟩ hs13 hx13
      have h14 : m_impl_StaleDirs_s0 x0 x1 s13 = some x13 := hs13
      unfold m_impl_StaleDirs_s0 at h14
      refine st13.sq (
          sc rfl (oCI rfl (tp rfl) (tp rfl)) <| .nil) [3, 19, 20, 21, 22] rfl [(5, 0)] rfl ⟨fun _ h => h, trivial⟩ (fun a15 w15 st15 => ?_)
      refine wp_seq ?_
      refine st15.cs (c := 22) rfl h14 (fun c16 h16 => ?_) (fun c17 h17 => ?_)
      ·
        refine wp_skip ?_
        refine then_normal ?_
        obtain ⟨o18, p18, k18⟩ := bs h16
        refine wp_seq_join (fun a w => ∃ M1 q18_0 q18_1, Sx (Frm.of w0) 54 M M1 [oneB q18_0, oneB q18_1] [(3, dptr x1), (19, dt x0.dirs), (20, dt (x0.dirs.length : Int)), (21, dt s13.2)] [(5, 0, dtip q18_0 3 o18)] a w) ?_ ?_
        ·
          refine wp_block ?_
          refine wp_seq ?_
          refine wp_region_list ?_
          obtain ⟨v19, p19, h20⟩ := bs p18
          refine st15.seg 3 (
              sc rfl (oM rfl (tp rfl)) <|
              sc rfl (xIdx rfl kS37 (tp rfl) (tp rfl) p19) <|
              sc rfl (op_load rfl kT49 (tp rfl)) <| .nil) [3, 19, 20, 21, 23, 25] rfl [(5, 0)] rfl ⟨fun _ h => h, trivial⟩ (fun a21 w21 st21 => ?_)
          refine st21.alloc 1 rfl rfl kZ49 zrDir (by simp) [3, 19, 20, 21, 23, 25] rfl [5] rfl rfl (fun b23 M23 a23 w23 st23 => ?_)
          refine st23.seg 1 (
              sc rfl (oA rfl (tp rfl)) <| .nil) [3, 6, 19, 20, 21, 25] rfl [(5, 0), (7, 1)] rfl ⟨fun _ h => h, ⟨fun _ h => h, trivial⟩⟩ (fun a24 w24 st24 => ?_)
          refine st24.store (sb := 7) 1 FldS.id rfl rfl rfl kT49 rfl rfl (tp rfl) rfl [3, 6, 19, 20, 21] rfl [5] rfl rfl (fun M26 w26 st26 => ?_)
          refine wpList_nil ?_
          refine then_normal ?_
          refine wp_seq ?_
          obtain ⟨v27, p27, h30⟩ := bs h20
          obtain ⟨v28, p28, h31⟩ := bs h30
          obtain ⟨v29, p29, h32⟩ := bs h31
          refine st26.dr (D := [_, _, _, _, _, _, _, _, _, _, _, _, _, _, _, _, _, _, _, _, _, _]) Tryz_mixed [[], [0], [], [], [3], [], [5], [2, 3, 4, 5, 6], [0, 1, 2, 3, 4, 5, 6, 7], [0, 1, 2, 3, 4, 5, 6, 7, 8], [0, 1, 2, 3, 4, 5, 6, 7, 8, 9], [0, 1, 2, 3, 4, 5, 6, 7, 8, 9, 10], [0, 1, 2, 3, 4, 5, 6, 7, 8, 9], [0, 1, 2, 3, 4, 5, 6, 7, 8, 9, 12], [0, 1, 2, 3, 4, 5, 6, 7, 8, 9], [0, 1, 2, 3, 4, 5, 6, 7, 8, 9, 14], [0, 1, 2, 3, 4, 5, 6, 7, 8, 9], [0, 1, 2, 3, 4, 5, 6, 7, 8, 9, 16], [0, 1, 2, 3, 4, 5, 6, 7, 8, 9, 12, 13, 14, 15, 16, 17], [0, 1, 2, 3, 4, 5, 6, 7, 8, 9, 10, 11, 12, 13, 14, 15, 16, 17, 18], [0, 1, 2, 3, 4, 5, 6, 7, 8, 9, 10, 11, 12, 13, 14, 15, 16, 17, 18, 19], [0, 1, 2, 3, 4, 5, 6, 7, 8, 9, 10, 11, 12, 13, 14, 15, 16, 17, 18, 19, 20]] [[(7, none)], [(26, some 0)], [(3, none)], [(7, none)], [(29, some 3)], [(7, none)], [(31, some 5)], [(28, some 2), (30, some 4), (32, some 6)], [(27, some 1), (33, some 7)], [(34, some 8)], [(7, none), (35, some 9)], [(36, some 10), (35, some 9)], [(3, none), (35, some 9)], [(38, some 12), (35, some 9)], [(7, none), (35, some 9)], [(40, some 14), (35, some 9)], [(7, none), (35, some 9)], [(42, some 16), (35, some 9)], [(39, some 13), (41, some 15), (43, some 17), (35, some 9)], [(37, some 11), (44, some 18), (35, some 9)], [(45, some 19), (35, some 9)], [(35, some 9), (46, some 20)]] (by decide +kernel) (
            rc rfl rfl (op_fieldBox Dir.fld2 rfl kF49_2 (tp rfl)) <|
              rc rfl rfl (op_loadBox rfl kT3 (tp rfl)) <|
              rc rfl rfl (op_load rfl kT41 (tp rfl)) <|
              rc rfl rfl (op_fieldBox Dir.fld0 rfl kF49_0 (tp rfl)) <|
              rc rfl rfl (op_loadBox rfl kT3 (tp rfl)) <|
              rc rfl rfl (op_fieldBox Dir.fld1 rfl kF49_1 (tp rfl)) <|
              rc rfl rfl (op_loadBox rfl kT9 (tp rfl)) <|
              rc rfl rfl (op_call (l := [.tmp 28, .tmp 30, .tmp 32]) rfl kN67 (.cons (tp rfl) (.cons (tp rfl) (.cons (tp rfl) .nil))) (impl_stampOf_w p27)) <|
              rc rfl rfl (oCI rfl (tp rfl) (tp rfl)) <|
              rc rfl rfl (oM rfl (tp rfl)) <|
              rg rfl rfl rfl (fun hg => op_fieldBox Dir.fld3 rfl kF49_3 (tp rfl)) <|
              rg rfl rfl rfl (fun hg => op_loadBox rfl kT47 (opd_g hg rfl)) <|
              rg rfl rfl rfl (fun hg => op_field Disk.fld0 rfl kF41_0 (tp rfl)) <|
              rg rfl rfl rfl (fun hg => op_load rfl kT30 (opd_g hg rfl)) <|
              rg rfl rfl rfl (fun hg => op_fieldBox Dir.fld0 rfl kF49_0 (tp rfl)) <|
              rg rfl rfl rfl (fun hg => op_loadBox rfl kT3 (opd_g hg rfl)) <|
              rg rfl rfl rfl (fun hg => op_fieldBox Dir.fld1 rfl kF49_1 (tp rfl)) <|
              rg rfl rfl rfl (fun hg => op_loadBox rfl kT9 (opd_g hg rfl)) <|
              rg rfl rfl rfl (fun hg => op_call (l := [.tmp 39, .tmp 41, .tmp 43]) rfl kN68 (.cons (opd_g hg rfl) (.cons (opd_g hg rfl) (.cons (opd_g hg rfl) .nil))) ((impl_listDir_w (gh hg p28))).fn) <|
              rg rfl rfl rfl (fun hg => op_call (l := [.tmp 37, .tmp 44]) rfl kN60 (.cons (opd_g hg rfl) (.cons (opd_g hg rfl) .nil)) (slices_Equal_string_string_w (gh hg p29))) <|
              rg rfl rfl rfl (fun hg => op_not rfl (opd_g hg rfl)) <|
              rc rfl rfl (op_and rfl (tp rfl) (opd_tmp rfl)) <| .nil) [3, 6, 19, 20, 21, 47] rfl [(5, 0)] rfl ⟨fun _ h => h, trivial⟩ (fun a33 w33 st33 => ?_)
          refine then_normal ?_
          refine st33.cs (c := 47) rfl h32 (fun c34 h34 => ?_) (fun c35 h35 => ?_)
          ·
            refine wp_region_list ?_
            refine st33.seg 3 (
                sc rfl (oM rfl (tp rfl)) <|
                sc rfl (oM rfl (tp rfl)) <|
                sc rfl (op_lit (opds := [.tmp 49]) rfl kS25 kY25 rfl rfl (by decide) (.cons (tp rfl) .nil)) <| .nil) [3, 19, 20, 21, 50] rfl [(5, 0), (48, 0)] rfl ⟨fun _ h => h, ⟨fun _ h => h, trivial⟩⟩ (fun a36 w36 st36 => ?_)
            obtain ⟨v39, p39, h40⟩ := bs h34
            refine st36.app 0 rfl rfl kE25 rfl rfl rfl row_dt p39 [3, 19, 20, 21] rfl [] rfl rfl (fun g38 M38 a38 w38 st38 => ?_)
            refine st38.seg 1 (
                sc rfl (oA rfl (tp rfl)) <| .nil) [3, 19, 20, 21] rfl [(5, 0)] rfl ⟨fun _ h => h, trivial⟩ (fun a41 w41 st41 => ?_)
            refine wpList_nil ?_
            refine blk_normal ?_
            refine then_normal ?_
            obtain rfl := Option.some.inj h40
            exact ⟨_, _, _, st41.sel [3, 19, 20, 21] rfl [(5, 0)] rfl ⟨fun _ h => h, trivial⟩⟩
          ·
            refine wp_skip ?_
            refine blk_normal ?_
            refine then_normal ?_
            obtain rfl := Option.some.inj h35
            exact ⟨_, _, _, st33.sel [3, 19, 20, 21] rfl [(5, 0)] rfl ⟨fun _ h => h, trivial⟩⟩
        · rintro a18 w18 ⟨M18, q18_0, q18_1, st18⟩
          have h42 := k18
          obtain ⟨v43, p43, h44⟩ := bs h42
          refine st18.rg (
              sc rfl (xAr rfl (tp rfl) cI p43) <|
              sc rfl (oM rfl (tp rfl)) <| .nil) [3, 19, 20, 21] rfl [(5, 0)] rfl ⟨fun _ h => h, trivial⟩ (fun a45 w45 st45 => ?_)
          refine then_normal ?_
          exact ⟨_, (Option.some.inj h44).symm, ⟨_, _, _, st45.sel [3, 19, 20, 21] rfl [(5, 0)] rfl ⟨fun _ h => h, trivial⟩⟩⟩
      ·
        refine wp_exit (thn_exit (thn_exit (exit_here ?_)))
        refine then_normal ?_
        have h46 := lo h17 hx13
        obtain rfl := Option.some.inj h46
        exact ⟨_, _, _, st15.sel [] rfl [(5, 0)] rfl ⟨fun _ h => h, trivial⟩⟩
    · rintro a11 w11 ⟨M11, q11_0, q11_1, st11⟩
      have h47 := k11
      refine st11.sq (
        sc rfl (oM rfl (tp rfl)) <|
        sc rfl (oA rfl (tp rfl)) <| .nil) [] rfl [(4, 0)] rfl ⟨fun _ h => h, trivial⟩ (fun a48 w48 st48 => ?_)
      refine wp_ret ?_
      exact st48.ret_own 0 rfl rfl (fun _ h => h) h47

def m_spec_dirAt_s0 (x0 : List Dir) (x1 : Int) (x2 : Str) (s4 : Int) : Option (Int ⊕ (Unit ⊕ Int)) :=
if (cmpI .lss s4 (x0.length : Int)) = true then ((atI x0 s4).bind fun v9 =>
(gO (cmpI .eql v9.root x1 == true) (atI x0 s4)).bind fun v10 =>
if (cmpI .eql v9.root x1 && decide (v10.pkg = x2)) = true then (some (.inr (.inr s4)))
else ((i64 (s4 + (1 : Int))).bind fun v19 =>
some (.inl v19)))
else (some (.inr (.inl ())))

def m_spec_dirAt (x0 : List Dir) (x1 : Int) (x2 : Str) : Option Int :=
Option.bind (α := Unit ⊕ Int) (loopM (fun s4 => m_spec_dirAt_s0 x0 x1 x2 s4) (0 : Int)) (Sum.elim (fun b2 =>
some (-1 : Int)) some)

theorem spec_dirAt_w {x0 : List Dir} {x1 : Int} {x2 : Str} {r : Int} (h : m_spec_dirAt x0 x1 x2 = some r) : Fn Tryz.prog 122 [dt x0, dt x1, dt x2] (dt r) := by
  unfold m_spec_dirAt at h
  refine fnx (fn := Tryz.f122) 0 Tryz.func122 rfl (of_decide_eq_true rfl) rfl (fun M w0 a0 st0 => ?_)
  refine st0.sq0 (
    sc rfl (oA rfl cI) <| .nil) [0, 1, 2] rfl (fun a1 w1 st1 => ?_)
  obtain ⟨o2, p2, k2⟩ := bs h
  refine wp_seq_join (fun a w => ∃ b2, o2 = .inl b2 ∧ Sx (Frm.of w0) 31 M M [] [] [] a w) ?_ ?_
  ·
    refine st1.sq0 (
      sc rfl (oA rfl cI) <| .nil) [0, 1, 2, 7] rfl (fun a3 w3 st3 => ?_)
    refine wp_block ?_
    refine loop_model p2 (fun s4 a w => Sx (Frm.of w0) 31 M M [] [(0, dt x0), (1, dt x1), (2, dt x2), (7, dt s4)] [] a w) (st3.sel0 [0, 1, 2, 7] rfl) ?_
    rintro s4 x4 a4 w4 st4 hs4 hx4
    have h5 : m_spec_dirAt_s0 x0 x1 x2 s4 = some x4 := hs4
    unfold m_spec_dirAt_s0 at h5
    refine wp_seq ?_
    refine st4.sq0 (
        sc rfl (oM rfl (tp rfl)) <|
        sc rfl (oM rfl (tp rfl)) <|
        sc rfl (op_lenL rfl kL37 (tp rfl)) <|
        sc rfl (oCI rfl (tp rfl) (tp rfl)) <| .nil) [0, 1, 2, 7, 11] rfl (fun a6 w6 st6 => ?_)
    refine st6.cs (c := 11) rfl h5 (fun c7 h7 => ?_) (fun c8 h8 => ?_)
    ·
      refine wp_skip ?_
      refine then_normal ?_
      refine wp_seq ?_
      refine wp_block ?_
      obtain ⟨v9, p9, h11⟩ := bs h7
      obtain ⟨v10, p10, h12⟩ := bs h11
      refine st6.sq0 (
          sc rfl (oM rfl (tp rfl)) <|
          sc rfl (oM rfl (tp rfl)) <|
          sc rfl (xIdx rfl kS37 (tp rfl) (tp rfl) p9) <|
          sc rfl (op_field Dir.fld0 rfl kF49_0 (tp rfl)) <|
          sc rfl (op_load rfl kT3 (tp rfl)) <|
          sc rfl (oM rfl (tp rfl)) <|
          sc rfl (oCI rfl (tp rfl) (tp rfl)) <|
          sc rfl (oM rfl (tp rfl)) <|
          sg rfl rfl (fun hg => oM rfl (tp rfl)) <|
          sg rfl rfl (fun hg => oM rfl (tp rfl)) <|
          sg rfl rfl (fun hg => xIdx rfl kS37 (opd_g hg rfl) (opd_g hg rfl) (gh hg p10)) <|
          sg rfl rfl (fun hg => op_field Dir.fld1 rfl kF49_1 (opd_g hg rfl)) <|
          sg rfl rfl (fun hg => op_load rfl kT9 (opd_g hg rfl)) <|
          sg rfl rfl (fun hg => oM rfl (tp rfl)) <|
          sg rfl rfl (fun hg => op_eqS rfl (opd_g hg rfl) (opd_g hg rfl)) <|
          sc rfl (op_and rfl (tp rfl) (opd_tmp rfl)) <| .nil) [0, 1, 2, 7, 29] rfl (fun a13 w13 st13 => ?_)
      refine st13.cs (c := 29) rfl h12 (fun c14 h14 => ?_) (fun c15 h15 => ?_)
      ·
        refine st13.sq0 (
            sc rfl (oM rfl (tp rfl)) <|
            sc rfl (oA rfl (tp rfl)) <| .nil) [6] rfl (fun a16 w16 st16 => ?_)
        refine wp_ret (blk_ret (thn_ret (thn_ret (blk_ret (thn_ret ?_)))))
        have h17 := lo h14 hx4
        have h18 := jo h17 k2
        exact st16.ret rfl rfl h18
      ·
        refine wp_skip ?_
        refine blk_normal ?_
        refine then_normal ?_
        obtain ⟨v19, p19, h20⟩ := bs h15
        refine st13.rg0 (
            sc rfl (oM rfl (tp rfl)) <|
            sc rfl (xAr rfl (tp rfl) cI p19) <|
            sc rfl (oA rfl (tp rfl)) <| .nil) [0, 1, 2, 7] rfl (fun a21 w21 st21 => ?_)
        refine then_normal ?_
        exact ⟨_, (Option.some.inj h20).symm, st21.sel0 [0, 1, 2, 7] rfl⟩
    ·
      refine wp_exit (thn_exit (thn_exit (exit_here ?_)))
      refine then_normal ?_
      have h22 := lo h8 hx4
      exact ⟨_, (Option.some.inj h22).symm, st6.sel0 [] rfl⟩
  · rintro a2 w2 ⟨b2, rfl, st2⟩
    have h23 := jn k2
    refine st2.sq0 (
      sc rfl (oA rfl cI) <| .nil) [6] rfl (fun a24 w24 st24 => ?_)
    refine wp_ret ?_
    exact st24.ret rfl rfl h23

def m_spec_validDirs_s0 (x0 : List Dir) (s4 : Int) : Option (Int ⊕ (Unit ⊕ Bool)) :=
if (cmpI .lss s4 (x0.length : Int)) = true then ((atI x0 s4).bind fun v9 =>
(m_spec_inRange v9.root (0 : Int) (2 : Int)).bind fun v10 =>
(gO ((!v10) == false) (atI x0 s4)).bind fun v11 =>
(gO ((!v10) == false) (m_spec_validPackage v11.pkg)).bind fun v12 =>
(gO (((!v10) || (!v12)) == false) (atI x0 s4)).bind fun v13 =>
(gO (((!v10) || (!v12)) == false) (m_spec_inRange v13.stamp (0 : Int) (200 : Int))).bind fun v14 =>
(gO ((((!v10) || (!v12)) || (!v14)) == false) (atI x0 s4)).bind fun v15 =>
(gO ((((!v10) || (!v12)) || (!v14)) == false) (atI x0 s4)).bind fun v16 =>
(gO ((((!v10) || (!v12)) || (!v14)) == false) (m_spec_dirAt x0 v15.root v16.pkg)).bind fun v17 =>
(gO (((((!v10) || (!v12)) || (!v14)) || cmpI .lss v17 s4) == false) (atI x0 s4)).bind fun v18 =>
if (((((!v10) || (!v12)) || (!v14)) || cmpI .lss v17 s4) || cmpI .gtr (v18.names.length : Int) (12 : Int)) = true then (some (.inr (.inr false)))
else ((i64 (s4 + (1 : Int))).bind fun v35 =>
some (.inl v35)))
else (some (.inr (.inl ())))

def m_spec_validDirs (x0 : List Dir) : Option Bool :=
Option.bind (α := Unit ⊕ Bool) (loopM (fun s4 => m_spec_validDirs_s0 x0 s4) (0 : Int)) (Sum.elim (fun b2 =>
some (cmpI .leq (x0.length : Int) (20 : Int))) some)

theorem spec_validDirs_w {x0 : List Dir} {r : Bool} (h : m_spec_validDirs x0 = some r) : Fn Tryz.prog 121 [dt x0] (dt r) := by
  unfold m_spec_validDirs at h
  refine fnx (fn := Tryz.f121) 0 Tryz.func121 rfl (of_decide_eq_true rfl) rfl (fun M w0 a0 st0 => ?_)
  refine st0.sq0 (
    sc rfl (oA rfl cB) <| .nil) [0] rfl (fun a1 w1 st1 => ?_)
  obtain ⟨o2, p2, k2⟩ := bs h
  refine wp_seq_join (fun a w => ∃ b2, o2 = .inl b2 ∧ Sx (Frm.of w0) 63 M M [] [(0, dt x0)] [] a w) ?_ ?_
  ·
    refine st1.sq0 (
      sc rfl (oA rfl cI) <| .nil) [0, 3] rfl (fun a3 w3 st3 => ?_)
    refine wp_block ?_
    refine loop_model p2 (fun s4 a w => Sx (Frm.of w0) 63 M M [] [(0, dt x0), (3, dt s4)] [] a w) (st3.sel0 [0, 3] rfl) ?_
    rintro s4 x4 a4 w4 st4 hs4 hx4
    have h5 : m_spec_validDirs_s0 x0 s4 = some x4 := hs4
    unfold m_spec_validDirs_s0 at h5
    refine wp_seq ?_
    refine st4.sq0 (
        sc rfl (oM rfl (tp rfl)) <|
        sc rfl (oM rfl (tp rfl)) <|
        sc rfl (op_lenL rfl kL37 (tp rfl)) <|
        sc rfl (oCI rfl (tp rfl) (tp rfl)) <| .nil) [0, 3, 7] rfl (fun a6 w6 st6 => ?_)
    refine st6.cs (c := 7) rfl h5 (fun c7 h7 => ?_) (fun c8 h8 => ?_)
    ·
      refine wp_skip ?_
      refine then_normal ?_
      refine wp_seq ?_
      refine wp_block ?_
      refine wp_seq ?_
      obtain ⟨v9, p9, h19⟩ := bs h7
      obtain ⟨v10, p10, h20⟩ := bs h19
      obtain ⟨v11, p11, h21⟩ := bs h20
      obtain ⟨v12, p12, h22⟩ := bs h21
      obtain ⟨v13, p13, h23⟩ := bs h22
      obtain ⟨v14, p14, h24⟩ := bs h23
      obtain ⟨v15, p15, h25⟩ := bs h24
      obtain ⟨v16, p16, h26⟩ := bs h25
      obtain ⟨v17, p17, h27⟩ := bs h26
      obtain ⟨v18, p18, h28⟩ := bs h27
      refine st6.dr (D := [_, _, _, _, _, _, _, _, _, _, _, _, _, _, _, _, _, _, _, _, _, _, _, _, _, _, _, _, _, _, _, _, _, _, _, _, _, _, _, _, _, _, _, _, _, _, _, _, _, _]) Tryz_mixed [[], [], [0, 1], [0, 1, 2], [0, 1, 2, 3], [0, 1, 2, 3, 4], [0, 1, 2, 3, 4, 5], [0, 1, 2, 3, 4, 5, 6], [0, 1, 2, 3, 4, 5, 6, 7], [0, 1, 2, 3, 4, 5, 6, 7], [0, 1, 2, 3, 4, 5, 6, 7, 8, 9], [0, 1, 2, 3, 4, 5, 6, 7, 8, 9, 10], [0, 1, 2, 3, 4, 5, 6, 7, 8, 9, 10, 11], [0, 1, 2, 3, 4, 5, 6, 7, 8, 9, 10, 11, 12], [0, 1, 2, 3, 4, 5, 6, 7, 8, 9, 10, 11, 12, 13], [0, 1, 2, 3, 4, 5, 6, 7, 8, 9, 10, 11, 12, 13, 14], [0, 1, 2, 3, 4, 5, 6, 7, 8, 9, 10, 11, 12, 13, 14, 15], [0, 1, 2, 3, 4, 5, 6, 7, 8, 9, 10, 11, 12, 13, 14, 15, 16], [0, 1, 2, 3, 4, 5, 6, 7, 8, 9, 10, 11, 12, 13, 14, 15, 16], [0, 1, 2, 3, 4, 5, 6, 7, 8, 9, 10, 11, 12, 13, 14, 15, 16, 17, 18], [0, 1, 2, 3, 4, 5, 6, 7, 8, 9, 10, 11, 12, 13, 14, 15, 16, 17, 18, 19], [0, 1, 2, 3, 4, 5, 6, 7, 8, 9, 10, 11, 12, 13, 14, 15, 16, 17, 18, 19, 20], [0, 1, 2, 3, 4, 5, 6, 7, 8, 9, 10, 11, 12, 13, 14, 15, 16, 17, 18, 19, 20, 21], [0, 1, 2, 3, 4, 5, 6, 7, 8, 9, 10, 11, 12, 13, 14, 15, 16, 17, 18, 19, 20, 21, 22], [0, 1, 2, 3, 4, 5, 6, 7, 8, 9, 10, 11, 12, 13, 14, 15, 16, 17, 18, 19, 20, 21, 22, 23], [0, 1, 2, 3, 4, 5, 6, 7, 8, 9, 10, 11, 12, 13, 14, 15, 16, 17, 18, 19, 20, 21, 22, 23, 24], [0, 1, 2, 3, 4, 5, 6, 7, 8, 9, 10, 11, 12, 13, 14, 15, 16, 17, 18, 19, 20, 21, 22, 23, 24, 25], [0, 1, 2, 3, 4, 5, 6, 7, 8, 9, 10, 11, 12, 13, 14, 15, 16, 17, 18, 19, 20, 21, 22, 23, 24, 25], [0, 1, 2, 3, 4, 5, 6, 7, 8, 9, 10, 11, 12, 13, 14, 15, 16, 17, 18, 19, 20, 21, 22, 23, 24, 25], [0, 1, 2, 3, 4, 5, 6, 7, 8, 9, 10, 11, 12, 13, 14, 15, 16, 17, 18, 19, 20, 21, 22, 23, 24, 25, 27, 28], [0, 1, 2, 3, 4, 5, 6, 7, 8, 9, 10, 11, 12, 13, 14, 15, 16, 17, 18, 19, 20, 21, 22, 23, 24, 25, 27, 28, 29], [0, 1, 2, 3, 4, 5, 6, 7, 8, 9, 10, 11, 12, 13, 14, 15, 16, 17, 18, 19, 20, 21, 22, 23, 24, 25, 27, 28, 29, 30], [0, 1, 2, 3, 4, 5, 6, 7, 8, 9, 10, 11, 12, 13, 14, 15, 16, 17, 18, 19, 20, 21, 22, 23, 24, 25], [0, 1, 2, 3, 4, 5, 6, 7, 8, 9, 10, 11, 12, 13, 14, 15, 16, 17, 18, 19, 20, 21, 22, 23, 24, 25], [0, 1, 2, 3, 4, 5, 6, 7, 8, 9, 10, 11, 12, 13, 14, 15, 16, 17, 18, 19, 20, 21, 22, 23, 24, 25, 32, 33], [0, 1, 2, 3, 4, 5, 6, 7, 8, 9, 10, 11, 12, 13, 14, 15, 16, 17, 18, 19, 20, 21, 22, 23, 24, 25, 32, 33, 34], [0, 1, 2, 3, 4, 5, 6, 7, 8, 9, 10, 11, 12, 13, 14, 15, 16, 17, 18, 19, 20, 21, 22, 23, 24, 25, 32, 33, 34, 35], [0, 1, 2, 3, 4, 5, 6, 7, 8, 9, 10, 11, 12, 13, 14, 15, 16, 17, 18, 19, 20, 21, 22, 23, 24, 25, 26, 27, 28, 29, 30, 31, 32, 33, 34, 35, 36], [0, 1, 2, 3, 4, 5, 6, 7, 8, 9, 10, 11, 12, 13, 14, 15, 16, 17, 18, 19, 20, 21, 22, 23, 24, 25], [0, 1, 2, 3, 4, 5, 6, 7, 8, 9, 10, 11, 12, 13, 14, 15, 16, 17, 18, 19, 20, 21, 22, 23, 24, 25, 26, 27, 28, 29, 30, 31, 32, 33, 34, 35, 36, 37, 38], [0, 1, 2, 3, 4, 5, 6, 7, 8, 9, 10, 11, 12, 13, 14, 15, 16, 17, 18, 19, 20, 21, 22, 23, 24, 25, 26, 27, 28, 29, 30, 31, 32, 33, 34, 35, 36, 37, 38, 39], [0, 1, 2, 3, 4, 5, 6, 7, 8, 9, 10, 11, 12, 13, 14, 15, 16, 17, 18, 19, 20, 21, 22, 23, 24, 25, 26, 27, 28, 29, 30, 31, 32, 33, 34, 35, 36, 37, 38, 39, 40], [0, 1, 2, 3, 4, 5, 6, 7, 8, 9, 10, 11, 12, 13, 14, 15, 16, 17, 18, 19, 20, 21, 22, 23, 24, 25, 26, 27, 28, 29, 30, 31, 32, 33, 34, 35, 36, 37, 38, 39, 40, 41], [0, 1, 2, 3, 4, 5, 6, 7, 8, 9, 10, 11, 12, 13, 14, 15, 16, 17, 18, 19, 20, 21, 22, 23, 24, 25, 26, 27, 28, 29, 30, 31, 32, 33, 34, 35, 36, 37, 38, 39, 40, 41], [0, 1, 2, 3, 4, 5, 6, 7, 8, 9, 10, 11, 12, 13, 14, 15, 16, 17, 18, 19, 20, 21, 22, 23, 24, 25, 26, 27, 28, 29, 30, 31, 32, 33, 34, 35, 36, 37, 38, 39, 40, 41, 42, 43], [0, 1, 2, 3, 4, 5, 6, 7, 8, 9, 10, 11, 12, 13, 14, 15, 16, 17, 18, 19, 20, 21, 22, 23, 24, 25, 26, 27, 28, 29, 30, 31, 32, 33, 34, 35, 36, 37, 38, 39, 40, 41, 42, 43, 44], [0, 1, 2, 3, 4, 5, 6, 7, 8, 9, 10, 11, 12, 13, 14, 15, 16, 17, 18, 19, 20, 21, 22, 23, 24, 25, 26, 27, 28, 29, 30, 31, 32, 33, 34, 35, 36, 37, 38, 39, 40, 41, 42, 43, 44, 45], [0, 1, 2, 3, 4, 5, 6, 7, 8, 9, 10, 11, 12, 13, 14, 15, 16, 17, 18, 19, 20, 21, 22, 23, 24, 25, 26, 27, 28, 29, 30, 31, 32, 33, 34, 35, 36, 37, 38, 39, 40, 41, 42, 43, 44, 45, 46], [0, 1, 2, 3, 4, 5, 6, 7, 8, 9, 10, 11, 12, 13, 14, 15, 16, 17, 18, 19, 20, 21, 22, 23, 24, 25, 26, 27, 28, 29, 30, 31, 32, 33, 34, 35, 36, 37, 38, 39, 40, 41, 42, 43, 44, 45, 46, 47], [0, 1, 2, 3, 4, 5, 6, 7, 8, 9, 10, 11, 12, 13, 14, 15, 16, 17, 18, 19, 20, 21, 22, 23, 24, 25, 26, 27, 28, 29, 30, 31, 32, 33, 34, 35, 36, 37, 38, 39, 40, 41, 42, 43, 44, 45, 46, 47, 48]] [[(0, none)], [(3, none)], [(10, some 0), (11, some 1)], [(12, some 2)], [(13, some 3)], [(14, some 4)], [(15, some 5)], [(16, some 6)], [(0, none), (17, some 7)], [(3, none), (17, some 7)], [(18, some 8), (19, some 9), (17, some 7)], [(20, some 10), (17, some 7)], [(21, some 11), (17, some 7)], [(22, some 12), (17, some 7)], [(23, some 13), (17, some 7)], [(17, some 7), (24, some 14)], [(25, some 15)], [(0, none), (26, some 16)], [(3, none), (26, some 16)], [(27, some 17), (28, some 18), (26, some 16)], [(29, some 19), (26, some 16)], [(30, some 20), (26, some 16)], [(31, some 21), (26, some 16)], [(32, some 22), (26, some 16)], [(26, some 16), (33, some 23)], [(34, some 24)], [(0, none), (35, some 25)], [(0, none), (35, some 25)], [(3, none), (35, some 25)], [(37, some 27), (38, some 28), (35, some 25)], [(39, some 29), (35, some 25)], [(40, some 30), (35, some 25)], [(0, none), (35, some 25)], [(3, none), (35, some 25)], [(42, some 32), (43, some 33), (35, some 25)], [(44, some 34), (35, some 25)], [(45, some 35), (35, some 25)], [(36, some 26), (41, some 31), (46, some 36), (35, some 25)], [(3, none), (35, some 25)], [(47, some 37), (48, some 38), (35, some 25)], [(35, some 25), (49, some 39)], [(50, some 40)], [(0, none), (51, some 41)], [(3, none), (51, some 41)], [(52, some 42), (53, some 43), (51, some 41)], [(54, some 44), (51, some 41)], [(55, some 45), (51, some 41)], [(56, some 46), (51, some 41)], [(57, some 47), (51, some 41)], [(51, some 41), (58, some 48)]] (by decide +kernel) (
        rc rfl rfl (oM rfl (tp rfl)) <|
          rc rfl rfl (oM rfl (tp rfl)) <|
          rc rfl rfl (xIdx rfl kS37 (tp rfl) (tp rfl) p9) <|
          rc rfl rfl (op_field Dir.fld0 rfl kF49_0 (tp rfl)) <|
          rc rfl rfl (op_load rfl kT3 (tp rfl)) <|
          rc rfl rfl (op_call (l := [.tmp 14, .const (.int .i64 0), .const (.int .i64 2)]) rfl kN101 (.cons (tp rfl) (.cons cI (.cons cI .nil))) (spec_inRange_w p10)) <|
          rc rfl rfl (op_not rfl (tp rfl)) <|
          rc rfl rfl (oM rfl (tp rfl)) <|
          rg rfl rfl rfl (fun hg => oM rfl (tp rfl)) <|
          rg rfl rfl rfl (fun hg => oM rfl (tp rfl)) <|
          rg rfl rfl rfl (fun hg => xIdx rfl kS37 (opd_g hg rfl) (opd_g hg rfl) (gh hg p11)) <|
          rg rfl rfl rfl (fun hg => op_field Dir.fld1 rfl kF49_1 (opd_g hg rfl)) <|
          rg rfl rfl rfl (fun hg => op_load rfl kT9 (opd_g hg rfl)) <|
          rg rfl rfl rfl (fun hg => op_call (l := [.tmp 22]) rfl kN144 (.cons (opd_g hg rfl) .nil) (spec_validPackage_w (gh hg p12))) <|
          rg rfl rfl rfl (fun hg => op_not rfl (opd_g hg rfl)) <|
          rc rfl rfl (op_or rfl (tp rfl) (opd_tmp rfl)) <|
          rc rfl rfl (oM rfl (tp rfl)) <|
          rg rfl rfl rfl (fun hg => oM rfl (tp rfl)) <|
          rg rfl rfl rfl (fun hg => oM rfl (tp rfl)) <|
          rg rfl rfl rfl (fun hg => xIdx rfl kS37 (opd_g hg rfl) (opd_g hg rfl) (gh hg p13)) <|
          rg rfl rfl rfl (fun hg => op_field Dir.fld2 rfl kF49_2 (opd_g hg rfl)) <|
          rg rfl rfl rfl (fun hg => op_load rfl kT3 (opd_g hg rfl)) <|
          rg rfl rfl rfl (fun hg => op_call (l := [.tmp 31, .const (.int .i64 0), .const (.int .i64 200)]) rfl kN101 (.cons (opd_g hg rfl) (.cons cI (.cons cI .nil))) (spec_inRange_w (gh hg p14))) <|
          rg rfl rfl rfl (fun hg => op_not rfl (opd_g hg rfl)) <|
          rc rfl rfl (op_or rfl (tp rfl) (opd_tmp rfl)) <|
          rc rfl rfl (oM rfl (tp rfl)) <|
          rg rfl rfl rfl (fun hg => oM rfl (tp rfl)) <|
          rg rfl rfl rfl (fun hg => oM rfl (tp rfl)) <|
          rg rfl rfl rfl (fun hg => oM rfl (tp rfl)) <|
          rg rfl rfl rfl (fun hg => xIdx rfl kS37 (opd_g hg rfl) (opd_g hg rfl) (gh hg p15)) <|
          rg rfl rfl rfl (fun hg => op_field Dir.fld0 rfl kF49_0 (opd_g hg rfl)) <|
          rg rfl rfl rfl (fun hg => op_load rfl kT3 (opd_g hg rfl)) <|
          rg rfl rfl rfl (fun hg => oM rfl (tp rfl)) <|
          rg rfl rfl rfl (fun hg => oM rfl (tp rfl)) <|
          rg rfl rfl rfl (fun hg => xIdx rfl kS37 (opd_g hg rfl) (opd_g hg rfl) (gh hg p16)) <|
          rg rfl rfl rfl (fun hg => op_field Dir.fld1 rfl kF49_1 (opd_g hg rfl)) <|
          rg rfl rfl rfl (fun hg => op_load rfl kT9 (opd_g hg rfl)) <|
          rg rfl rfl rfl (fun hg => op_call (l := [.tmp 36, .tmp 41, .tmp 46]) rfl kN122 (.cons (opd_g hg rfl) (.cons (opd_g hg rfl) (.cons (opd_g hg rfl) .nil))) (spec_dirAt_w (gh hg p17))) <|
          rg rfl rfl rfl (fun hg => oM rfl (tp rfl)) <|
          rg rfl rfl rfl (fun hg => oCI rfl (opd_g hg rfl) (opd_g hg rfl)) <|
          rc rfl rfl (op_or rfl (tp rfl) (opd_tmp rfl)) <|
          rc rfl rfl (oM rfl (tp rfl)) <|
          rg rfl rfl rfl (fun hg => oM rfl (tp rfl)) <|
          rg rfl rfl rfl (fun hg => oM rfl (tp rfl)) <|
          rg rfl rfl rfl (fun hg => xIdx rfl kS37 (opd_g hg rfl) (opd_g hg rfl) (gh hg p18)) <|
          rg rfl rfl rfl (fun hg => op_field Dir.fld3 rfl kF49_3 (opd_g hg rfl)) <|
          rg rfl rfl rfl (fun hg => op_load rfl kT47 (opd_g hg rfl)) <|
          rg rfl rfl rfl (fun hg => op_lenL rfl kL47 (opd_g hg rfl)) <|
          rg rfl rfl rfl (fun hg => oCI rfl (opd_g hg rfl) cI) <|
          rc rfl rfl (op_or rfl (tp rfl) (opd_tmp rfl)) <| .nil) [0, 3, 59] rfl [] rfl trivial (fun a29 w29 st29 => ?_)
      refine then_normal ?_
      refine st29.cs (c := 59) rfl h28 (fun c30 h30 => ?_) (fun c31 h31 => ?_)
      ·
        refine st29.sq0 (
            sc rfl (oA rfl cB) <| .nil) [2] rfl (fun a32 w32 st32 => ?_)
        refine wp_ret (blk_ret (thn_ret (thn_ret (blk_ret (thn_ret ?_)))))
        have h33 := lo h30 hx4
        have h34 := jo h33 k2
        exact st32.ret rfl rfl h34
      ·
        refine wp_skip ?_
        refine blk_normal ?_
        refine then_normal ?_
        obtain ⟨v35, p35, h36⟩ := bs h31
        refine st29.rg0 (
            sc rfl (oM rfl (tp rfl)) <|
            sc rfl (xAr rfl (tp rfl) cI p35) <|
            sc rfl (oA rfl (tp rfl)) <| .nil) [0, 3] rfl (fun a37 w37 st37 => ?_)
        refine then_normal ?_
        exact ⟨_, (Option.some.inj h36).symm, st37.sel0 [0, 3] rfl⟩
    ·
      refine wp_exit (thn_exit (thn_exit (exit_here ?_)))
      refine then_normal ?_
      have h38 := lo h8 hx4
      exact ⟨_, (Option.some.inj h38).symm, st6.sel0 [0] rfl⟩
  · rintro a2 w2 ⟨b2, rfl, st2⟩
    have h39 := jn k2
    refine st2.sq0 (
      sc rfl (oM rfl (tp rfl)) <|
      sc rfl (op_lenL rfl kL37 (tp rfl)) <|
      sc rfl (oCI rfl (tp rfl) cI) <|
      sc rfl (oA rfl (tp rfl)) <| .nil) [2] rfl (fun a40 w40 st40 => ?_)
    refine wp_ret ?_
    exact st40.ret rfl rfl h39

def m_spec_validFinder (x0 : Finder) : Option Bool :=
(m_spec_validDirs x0.dirs).bind fun v2 =>
(gO (v2 == true) (m_spec_inRange x0.fills (0 : Int) (1000 : Int))).bind fun v3 =>
(gO ((v2 && v3) == true) (m_spec_inRange x0.hits (0 : Int) (1000 : Int))).bind fun v4 =>
some ((v2 && v3) && v4)

theorem spec_validFinder_w {x0 : Finder} {r : Bool} (h : m_spec_validFinder x0 = some r) : Fn Tryz.prog 69 [dt x0] (dt r) := by
  unfold m_spec_validFinder at h
  refine fnx (fn := Tryz.f69) 0 Tryz.func69 rfl (of_decide_eq_true rfl) rfl (fun M w0 a0 st0 => ?_)
  refine st0.sq0 (
    sc rfl (op_box rfl (tp rfl)) <|
    sc rfl (oA rfl cB) <| .nil) [1] rfl (fun a1 w1 st1 => ?_)
  obtain ⟨v2, p2, h5⟩ := bs h
  obtain ⟨v3, p3, h6⟩ := bs h5
  obtain ⟨v4, p4, h7⟩ := bs h6
  refine st1.sq0 (
    sc rfl (op_field Finder.fld0 rfl kF39_0 (tp rfl)) <|
    sc rfl (op_load rfl kT37 (tp rfl)) <|
    sc rfl (op_call (l := [.tmp 4]) rfl kN121 (.cons (tp rfl) .nil) (spec_validDirs_w p2)) <|
    sc rfl (oM rfl (tp rfl)) <|
    sg rfl rfl (fun hg => op_field Finder.fld1 rfl kF39_1 (tp rfl)) <|
    sg rfl rfl (fun hg => op_load rfl kT3 (opd_g hg rfl)) <|
    sg rfl rfl (fun hg => op_call (l := [.tmp 8, .const (.int .i64 0), .const (.int .i64 1000)]) rfl kN101 (.cons (opd_g hg rfl) (.cons cI (.cons cI .nil))) (spec_inRange_w (gh hg p3))) <|
    sc rfl (op_and rfl (tp rfl) (opd_tmp rfl)) <|
    sc rfl (oM rfl (tp rfl)) <|
    sg rfl rfl (fun hg => op_field Finder.fld2 rfl kF39_2 (tp rfl)) <|
    sg rfl rfl (fun hg => op_load rfl kT3 (opd_g hg rfl)) <|
    sg rfl rfl (fun hg => op_call (l := [.tmp 13, .const (.int .i64 0), .const (.int .i64 1000)]) rfl kN101 (.cons (opd_g hg rfl) (.cons cI (.cons cI .nil))) (spec_inRange_w (gh hg p4))) <|
    sc rfl (op_and rfl (tp rfl) (opd_tmp rfl)) <|
    sc rfl (oA rfl (tp rfl)) <| .nil) [2] rfl (fun a8 w8 st8 => ?_)
  refine wp_ret ?_
  exact st8.ret rfl rfl h7

def m_spec_validDisk_s0 (x0 : Disk) (s4 : Int) : Option (Int ⊕ (Unit ⊕ Bool)) :=
if (cmpI .lss s4 (x0.dirs.length : Int)) = true then ((atI x0.dirs s4).bind fun v9 =>
(gO (cmpI .gtr v9.stamp x0.clock == false) (atI x0.dirs s4)).bind fun v10 =>
if (cmpI .gtr v9.stamp x0.clock || cmpI .gtr (v10.names.length : Int) (0 : Int)) = true then (some (.inr (.inr false)))
else ((i64 (s4 + (1 : Int))).bind fun v19 =>
some (.inl v19)))
else (some (.inr (.inl ())))

def m_spec_validDisk (x0 : Disk) : Option Bool :=
Option.bind (α := Unit ⊕ Bool) (loopM (fun s4 => m_spec_validDisk_s0 x0 s4) (0 : Int)) (Sum.elim (fun b2 =>
(m_spec_validTree x0.tree).bind fun v24 =>
(gO (v24 == true) (m_spec_inRange x0.clock (0 : Int) (200 : Int))).bind fun v25 =>
(gO ((v24 && v25) == true) (m_spec_validDirs x0.dirs)).bind fun v26 =>
some ((v24 && v25) && v26)) some)

theorem spec_validDisk_w {x0 : Disk} {r : Bool} (h : m_spec_validDisk x0 = some r) : Fn Tryz.prog 70 [dt x0] (dt r) := by
  unfold m_spec_validDisk at h
  refine fnx (fn := Tryz.f70) 0 Tryz.func70 rfl (of_decide_eq_true rfl) rfl (fun M w0 a0 st0 => ?_)
  refine st0.sq0 (
    sc rfl (op_box rfl (tp rfl)) <|
    sc rfl (oA rfl cB) <| .nil) [1] rfl (fun a1 w1 st1 => ?_)
  obtain ⟨o2, p2, k2⟩ := bs h
  refine wp_seq_join (fun a w => ∃ b2, o2 = .inl b2 ∧ Sx (Frm.of w0) 43 M M [] [(1, dptr x0)] [] a w) ?_ ?_
  ·
    refine st1.sq0 (
      sc rfl (oA rfl cI) <| .nil) [1, 3] rfl (fun a3 w3 st3 => ?_)
    refine wp_block ?_
    refine loop_model p2 (fun s4 a w => Sx (Frm.of w0) 43 M M [] [(1, dptr x0), (3, dt s4)] [] a w) (st3.sel0 [1, 3] rfl) ?_
    rintro s4 x4 a4 w4 st4 hs4 hx4
    have h5 : m_spec_validDisk_s0 x0 s4 = some x4 := hs4
    unfold m_spec_validDisk_s0 at h5
    refine wp_seq ?_
    refine st4.sq0 (
        sc rfl (oM rfl (tp rfl)) <|
        sc rfl (op_field Disk.fld2 rfl kF41_2 (tp rfl)) <|
        sc rfl (op_load rfl kT37 (tp rfl)) <|
        sc rfl (op_lenL rfl kL37 (tp rfl)) <|
        sc rfl (oCI rfl (tp rfl) (tp rfl)) <| .nil) [1, 3, 8] rfl (fun a6 w6 st6 => ?_)
    refine st6.cs (c := 8) rfl h5 (fun c7 h7 => ?_) (fun c8 h8 => ?_)
    ·
      refine wp_skip ?_
      refine then_normal ?_
      refine wp_seq ?_
      refine wp_block ?_
      refine wp_seq ?_
      obtain ⟨v9, p9, h11⟩ := bs h7
      obtain ⟨v10, p10, h12⟩ := bs h11
      refine st6.dr (D := [_, _, _, _, _, _, _, _, _, _, _, _, _, _, _, _, _, _, _]) Tryz_mixed [[], [0], [], [0, 1, 2], [0, 1, 2, 3], [0, 1, 2, 3, 4], [], [6], [0, 1, 2, 3, 4, 5, 6, 7], [0, 1, 2, 3, 4, 5, 6, 7, 8], [0, 1, 2, 3, 4, 5, 6, 7, 8, 9], [0, 1, 2, 3, 4, 5, 6, 7, 8, 9, 10], [0, 1, 2, 3, 4, 5, 6, 7, 8, 9], [0, 1, 2, 3, 4, 5, 6, 7, 8, 9, 10, 11, 12], [0, 1, 2, 3, 4, 5, 6, 7, 8, 9, 10, 11, 12, 13], [0, 1, 2, 3, 4, 5, 6, 7, 8, 9, 10, 11, 12, 13, 14], [0, 1, 2, 3, 4, 5, 6, 7, 8, 9, 10, 11, 12, 13, 14, 15], [0, 1, 2, 3, 4, 5, 6, 7, 8, 9, 10, 11, 12, 13, 14, 15, 16], [0, 1, 2, 3, 4, 5, 6, 7, 8, 9, 10, 11, 12, 13, 14, 15, 16, 17]] [[(1, none)], [(11, some 0)], [(3, none)], [(12, some 1), (13, some 2)], [(14, some 3)], [(15, some 4)], [(1, none)], [(17, some 6)], [(16, some 5), (18, some 7)], [(19, some 8)], [(1, none), (20, some 9)], [(21, some 10), (20, some 9)], [(3, none), (20, some 9)], [(22, some 11), (23, some 12), (20, some 9)], [(24, some 13), (20, some 9)], [(25, some 14), (20, some 9)], [(26, some 15), (20, some 9)], [(27, some 16), (20, some 9)], [(20, some 9), (28, some 17)]] (by decide +kernel) (
        rc rfl rfl (op_field Disk.fld2 rfl kF41_2 (tp rfl)) <|
          rc rfl rfl (op_load rfl kT37 (tp rfl)) <|
          rc rfl rfl (oM rfl (tp rfl)) <|
          rc rfl rfl (xIdx rfl kS37 (tp rfl) (tp rfl) p9) <|
          rc rfl rfl (op_field Dir.fld2 rfl kF49_2 (tp rfl)) <|
          rc rfl rfl (op_load rfl kT3 (tp rfl)) <|
          rc rfl rfl (op_field Disk.fld1 rfl kF41_1 (tp rfl)) <|
          rc rfl rfl (op_load rfl kT3 (tp rfl)) <|
          rc rfl rfl (oCI rfl (tp rfl) (tp rfl)) <|
          rc rfl rfl (oM rfl (tp rfl)) <|
          rg rfl rfl rfl (fun hg => op_field Disk.fld2 rfl kF41_2 (tp rfl)) <|
          rg rfl rfl rfl (fun hg => op_load rfl kT37 (opd_g hg rfl)) <|
          rg rfl rfl rfl (fun hg => oM rfl (tp rfl)) <|
          rg rfl rfl rfl (fun hg => xIdx rfl kS37 (opd_g hg rfl) (opd_g hg rfl) (gh hg p10)) <|
          rg rfl rfl rfl (fun hg => op_field Dir.fld3 rfl kF49_3 (opd_g hg rfl)) <|
          rg rfl rfl rfl (fun hg => op_load rfl kT47 (opd_g hg rfl)) <|
          rg rfl rfl rfl (fun hg => op_lenL rfl kL47 (opd_g hg rfl)) <|
          rg rfl rfl rfl (fun hg => oCI rfl (opd_g hg rfl) cI) <|
          rc rfl rfl (op_or rfl (tp rfl) (opd_tmp rfl)) <| .nil) [1, 3, 29] rfl [] rfl trivial (fun a13 w13 st13 => ?_)
      refine then_normal ?_
      refine st13.cs (c := 29) rfl h12 (fun c14 h14 => ?_) (fun c15 h15 => ?_)
      ·
        refine st13.sq0 (
            sc rfl (oA rfl cB) <| .nil) [2] rfl (fun a16 w16 st16 => ?_)
        refine wp_ret (blk_ret (thn_ret (thn_ret (blk_ret (thn_ret ?_)))))
        have h17 := lo h14 hx4
        have h18 := jo h17 k2
        exact st16.ret rfl rfl h18
      ·
        refine wp_skip ?_
        refine blk_normal ?_
        refine then_normal ?_
        obtain ⟨v19, p19, h20⟩ := bs h15
        refine st13.rg0 (
            sc rfl (oM rfl (tp rfl)) <|
            sc rfl (xAr rfl (tp rfl) cI p19) <|
            sc rfl (oA rfl (tp rfl)) <| .nil) [1, 3] rfl (fun a21 w21 st21 => ?_)
        refine then_normal ?_
        exact ⟨_, (Option.some.inj h20).symm, st21.sel0 [1, 3] rfl⟩
    ·
      refine wp_exit (thn_exit (thn_exit (exit_here ?_)))
      refine then_normal ?_
      have h22 := lo h8 hx4
      exact ⟨_, (Option.some.inj h22).symm, st6.sel0 [1] rfl⟩
  · rintro a2 w2 ⟨b2, rfl, st2⟩
    have h23 := jn k2
    obtain ⟨v24, p24, h27⟩ := bs h23
    obtain ⟨v25, p25, h28⟩ := bs h27
    obtain ⟨v26, p26, h29⟩ := bs h28
    refine st2.sq0 (
      sc rfl (op_field Disk.fld0 rfl kF41_0 (tp rfl)) <|
      sc rfl (op_load rfl kT30 (tp rfl)) <|
      sc rfl (op_call (l := [.tmp 31]) rfl kN53 (.cons (tp rfl) .nil) (spec_validTree_w p24)) <|
      sc rfl (oM rfl (tp rfl)) <|
      sg rfl rfl (fun hg => op_field Disk.fld1 rfl kF41_1 (tp rfl)) <|
      sg rfl rfl (fun hg => op_load rfl kT3 (opd_g hg rfl)) <|
      sg rfl rfl (fun hg => op_call (l := [.tmp 35, .const (.int .i64 0), .const (.int .i64 200)]) rfl kN101 (.cons (opd_g hg rfl) (.cons cI (.cons cI .nil))) (spec_inRange_w (gh hg p25))) <|
      sc rfl (op_and rfl (tp rfl) (opd_tmp rfl)) <|
      sc rfl (oM rfl (tp rfl)) <|
      sg rfl rfl (fun hg => op_field Disk.fld2 rfl kF41_2 (tp rfl)) <|
      sg rfl rfl (fun hg => op_load rfl kT37 (opd_g hg rfl)) <|
      sg rfl rfl (fun hg => op_call (l := [.tmp 40]) rfl kN121 (.cons (opd_g hg rfl) .nil) (spec_validDirs_w (gh hg p26))) <|
      sc rfl (op_and rfl (tp rfl) (opd_tmp rfl)) <|
      sc rfl (oA rfl (tp rfl)) <| .nil) [2] rfl (fun a30 w30 st30 => ?_)
    refine wp_ret ?_
    exact st30.ret rfl rfl h29

def m_spec_stampOf (x0 : Disk) (x1 : Int) (x2 : Str) : Option Int :=
(m_spec_dirAt x0.dirs x1 x2).bind fun v2 =>
if (cmpI .lss v2 (0 : Int)) = true then (some (0 : Int))
else ((atI x0.dirs v2).bind fun v9 =>
some v9.stamp)

theorem spec_stampOf_w {x0 : Disk} {x1 : Int} {x2 : Str} {r : Int} (h : m_spec_stampOf x0 x1 x2 = some r) : Fn Tryz.prog 71 [dt x0, dt x1, dt x2] (dt r) := by
  unfold m_spec_stampOf at h
  refine fnx (fn := Tryz.f71) 0 Tryz.func71 rfl (of_decide_eq_true rfl) rfl (fun M w0 a0 st0 => ?_)
  refine st0.sq0 (
    sc rfl (op_box rfl (tp rfl)) <|
    sc rfl (oA rfl cI) <| .nil) [1, 2, 3] rfl (fun a1 w1 st1 => ?_)
  obtain ⟨v2, p2, h3⟩ := bs h
  refine st1.sq0 (
    sc rfl (op_field Disk.fld2 rfl kF41_2 (tp rfl)) <|
    sc rfl (op_load rfl kT37 (tp rfl)) <|
    sc rfl (oM rfl (tp rfl)) <|
    sc rfl (oM rfl (tp rfl)) <|
    sc rfl (op_call (l := [.tmp 9, .tmp 10, .tmp 11]) rfl kN122 (.cons (tp rfl) (.cons (tp rfl) (.cons (tp rfl) .nil))) (spec_dirAt_w p2)) <|
    sc rfl (oA rfl (tp rfl)) <| .nil) [3, 7] rfl (fun a4 w4 st4 => ?_)
  refine wp_seq ?_
  refine st4.sq0 (
    sc rfl (oM rfl (tp rfl)) <|
    sc rfl (oCI rfl (tp rfl) cI) <| .nil) [3, 7, 14] rfl (fun a5 w5 st5 => ?_)
  refine st5.cs (c := 14) rfl h3 (fun c6 h6 => ?_) (fun c7 h7 => ?_)
  ·
    refine st5.sq0 (
      sc rfl (oA rfl cI) <| .nil) [6] rfl (fun a8 w8 st8 => ?_)
    refine wp_ret (thn_ret ?_)
    exact st8.ret rfl rfl h6
  ·
    refine wp_skip ?_
    refine then_normal ?_
    obtain ⟨v9, p9, h10⟩ := bs h7
    refine st5.sq0 (
      sc rfl (op_field Disk.fld2 rfl kF41_2 (tp rfl)) <|
      sc rfl (op_load rfl kT37 (tp rfl)) <|
      sc rfl (oM rfl (tp rfl)) <|
      sc rfl (xIdx rfl kS37 (tp rfl) (tp rfl) p9) <|
      sc rfl (op_field Dir.fld2 rfl kF49_2 (tp rfl)) <|
      sc rfl (op_load rfl kT3 (tp rfl)) <|
      sc rfl (oA rfl (tp rfl)) <| .nil) [6] rfl (fun a11 w11 st11 => ?_)
    refine wp_ret ?_
    exact st11.ret rfl rfl h10

def m_spec_sameTexts_s0 (x0 : List Str) (x1 : List Str) (s8 : Int) : Option (Int ⊕ (Unit ⊕ Bool)) :=
if (cmpI .lss s8 (x0.length : Int)) = true then ((atI x0 s8).bind fun v13 =>
(atI x1 s8).bind fun v14 =>
if (decide (v13 ≠ v14)) = true then (some (.inr (.inr false)))
else ((i64 (s8 + (1 : Int))).bind fun v23 =>
some (.inl v23)))
else (some (.inr (.inl ())))

def m_spec_sameTexts (x0 : List Str) (x1 : List Str) : Option Bool :=
if (cmpI .neq (x0.length : Int) (x1.length : Int)) = true then (some false)
else (Option.bind (α := Unit ⊕ Bool) (loopM (fun s8 => m_spec_sameTexts_s0 x0 x1 s8) (0 : Int)) (Sum.elim (fun b6 =>
some true) some))

theorem spec_sameTexts_w {x0 : List Str} {x1 : List Str} {r : Bool} (h : m_spec_sameTexts x0 x1 = some r) : Fn Tryz.prog 72 [dt x0, dt x1] (dt r) := by
  unfold m_spec_sameTexts at h
  refine fnx (fn := Tryz.f72) 0 Tryz.func72 rfl (of_decide_eq_true rfl) rfl (fun M w0 a0 st0 => ?_)
  refine st0.sq0 (
    sc rfl (oA rfl cB) <| .nil) [0, 1] rfl (fun a1 w1 st1 => ?_)
  refine wp_seq ?_
  refine st1.sq0 (
    sc rfl (oM rfl (tp rfl)) <|
    sc rfl (op_lenL rfl kL47 (tp rfl)) <|
    sc rfl (oM rfl (tp rfl)) <|
    sc rfl (op_lenL rfl kL47 (tp rfl)) <|
    sc rfl (oCI rfl (tp rfl) (tp rfl)) <| .nil) [0, 1, 10] rfl (fun a2 w2 st2 => ?_)
  refine st2.cs (c := 10) rfl h (fun c3 h3 => ?_) (fun c4 h4 => ?_)
  ·
    refine st2.sq0 (
      sc rfl (oA rfl cB) <| .nil) [4] rfl (fun a5 w5 st5 => ?_)
    refine wp_ret (thn_ret ?_)
    exact st5.ret rfl rfl h3
  ·
    refine wp_skip ?_
    refine then_normal ?_
    obtain ⟨o6, p6, k6⟩ := bs h4
    refine wp_seq_join (fun a w => ∃ b6, o6 = .inl b6 ∧ Sx (Frm.of w0) 26 M M [] [] [] a w) ?_ ?_
    ·
      refine st2.sq0 (
        sc rfl (oA rfl cI) <| .nil) [0, 1, 5] rfl (fun a7 w7 st7 => ?_)
      refine wp_block ?_
      refine loop_model p6 (fun s8 a w => Sx (Frm.of w0) 26 M M [] [(0, dt x0), (1, dt x1), (5, dt s8)] [] a w) (st7.sel0 [0, 1, 5] rfl) ?_
      rintro s8 x8 a8 w8 st8 hs8 hx8
      have h9 : m_spec_sameTexts_s0 x0 x1 s8 = some x8 := hs8
      unfold m_spec_sameTexts_s0 at h9
      refine wp_seq ?_
      refine st8.sq0 (
          sc rfl (oM rfl (tp rfl)) <|
          sc rfl (oM rfl (tp rfl)) <|
          sc rfl (op_lenL rfl kL47 (tp rfl)) <|
          sc rfl (oCI rfl (tp rfl) (tp rfl)) <| .nil) [0, 1, 5, 14] rfl (fun a10 w10 st10 => ?_)
      refine st10.cs (c := 14) rfl h9 (fun c11 h11 => ?_) (fun c12 h12 => ?_)
      ·
        refine wp_skip ?_
        refine then_normal ?_
        refine wp_seq ?_
        refine wp_block ?_
        refine wp_seq ?_
        obtain ⟨v13, p13, h15⟩ := bs h11
        obtain ⟨v14, p14, h16⟩ := bs h15
        refine st10.dr (D := [_, _, _, _, _, _, _, _, _]) Tryz_mixed [[], [], [0, 1], [0, 1, 2], [], [], [4, 5], [4, 5, 6], [0, 1, 2, 3, 4, 5, 6, 7]] [[(0, none)], [(5, none)], [(17, some 0), (18, some 1)], [(19, some 2)], [(1, none)], [(5, none)], [(21, some 4), (22, some 5)], [(23, some 6)], [(20, some 3), (24, some 7)]] (by decide +kernel) (
          rc rfl rfl (oM rfl (tp rfl)) <|
            rc rfl rfl (oM rfl (tp rfl)) <|
            rc rfl rfl (xIdx rfl kS47 (tp rfl) (tp rfl) p13) <|
            rc rfl rfl (op_load rfl kT9 (tp rfl)) <|
            rc rfl rfl (oM rfl (tp rfl)) <|
            rc rfl rfl (oM rfl (tp rfl)) <|
            rc rfl rfl (xIdx rfl kS47 (tp rfl) (tp rfl) p14) <|
            rc rfl rfl (op_load rfl kT9 (tp rfl)) <|
            rc rfl rfl (op_neS rfl (tp rfl) (tp rfl)) <| .nil) [0, 1, 5, 25] rfl [] rfl trivial (fun a17 w17 st17 => ?_)
        refine then_normal ?_
        refine st17.cs (c := 25) rfl h16 (fun c18 h18 => ?_) (fun c19 h19 => ?_)
        ·
          refine st17.sq0 (
              sc rfl (oA rfl cB) <| .nil) [4] rfl (fun a20 w20 st20 => ?_)
          refine wp_ret (blk_ret (thn_ret (thn_ret (blk_ret (thn_ret ?_)))))
          have h21 := lo h18 hx8
          have h22 := jo h21 k6
          exact st20.ret rfl rfl h22
        ·
          refine wp_skip ?_
          refine blk_normal ?_
          refine then_normal ?_
          obtain ⟨v23, p23, h24⟩ := bs h19
          refine st17.rg0 (
              sc rfl (oM rfl (tp rfl)) <|
              sc rfl (xAr rfl (tp rfl) cI p23) <|
              sc rfl (oA rfl (tp rfl)) <| .nil) [0, 1, 5] rfl (fun a25 w25 st25 => ?_)
          refine then_normal ?_
          exact ⟨_, (Option.some.inj h24).symm, st25.sel0 [0, 1, 5] rfl⟩
      ·
        refine wp_exit (thn_exit (thn_exit (exit_here ?_)))
        refine then_normal ?_
        have h26 := lo h12 hx8
        exact ⟨_, (Option.some.inj h26).symm, st10.sel0 [] rfl⟩
    · rintro a6 w6 ⟨b6, rfl, st6⟩
      have h27 := jn k6
      refine st6.sq0 (
        sc rfl (oA rfl cB) <| .nil) [4] rfl (fun a28 w28 st28 => ?_)
      refine wp_ret ?_
      exact st28.ret rfl rfl h27

def m_spec_firstBelow (x0 : Str) (x1 : Str) : Option Str :=
Option.bind (α := Str) (if (decide (x1 ≠ (⟨[]⟩ : Str))) = true then ((i64 ((x1.l.length : Int) + (1 : Int))).bind fun v6 =>
(cutLO x0 v6).bind fun v7 =>
some v7)
else (some x0)) fun o2 =>
(m_spec_splitAt o2 (UInt8.ofNat 46)).bind fun v12 =>
(atI v12 (0 : Int)).bind fun v13 =>
some v13

theorem spec_firstBelow_w {x0 : Str} {x1 : Str} {r : Str} (h : m_spec_firstBelow x0 x1 = some r) : Fn Tryz.prog 124 [dt x0, dt x1] (dt r) := by
  unfold m_spec_firstBelow at h
  refine fnx (fn := Tryz.f124) 0 Tryz.func124 rfl (of_decide_eq_true rfl) rfl (fun M w0 a0 st0 => ?_)
  refine st0.sq0 (
    sc rfl (oA rfl (opd_str (by decide))) <| .nil) [0, 1] rfl (fun a1 w1 st1 => ?_)
  obtain ⟨o2, p2, k2⟩ := bs h
  refine wp_seq_join (fun a w => Sx (Frm.of w0) 16 M M [] [(0, dt o2)] [] a w) ?_ ?_
  ·
    refine st1.sq0 (
      sc rfl (oM rfl (tp rfl)) <|
      sc rfl (op_neS rfl (tp rfl) (opd_str (by decide))) <| .nil) [0, 1, 6] rfl (fun a3 w3 st3 => ?_)
    refine st3.cs (c := 6) rfl p2 (fun c4 h4 => ?_) (fun c5 h5 => ?_)
    ·
      obtain ⟨v6, p6, h8⟩ := bs h4
      obtain ⟨v7, p7, h9⟩ := bs h8
      refine st3.rg0 (
        sc rfl (oM rfl (tp rfl)) <|
        sc rfl (oM rfl (tp rfl)) <|
        sc rfl (op_lenS rfl kX9 (tp rfl)) <|
        sc rfl (xAr rfl (tp rfl) cI p6) <|
        sc rfl (xCutL rfl kX9 (tp rfl) (tp rfl) p7) <|
        sc rfl (oA rfl (tp rfl)) <| .nil) [0] rfl (fun a10 w10 st10 => ?_)
      refine then_normal ?_
      obtain rfl := Option.some.inj h9
      exact st10.sel0 [0] rfl
    ·
      refine wp_skip ?_
      refine then_normal ?_
      obtain rfl := Option.some.inj h5
      exact st3.sel0 [0] rfl
  · rintro a2 w2 st2
    have h11 := k2
    obtain ⟨v12, p12, h14⟩ := bs h11
    obtain ⟨v13, p13, h15⟩ := bs h14
    refine st2.sq0 (
      sc rfl (oM rfl (tp rfl)) <|
      sc rfl (op_call (l := [.tmp 12, .const (.int .u8 46)]) rfl kN107 (.cons (tp rfl) (.cons (opd_u8 (by decide)) .nil)) (spec_splitAt_w p12)) <|
      sc rfl (xIdx rfl kS47 (tp rfl) cI p13) <|
      sc rfl (op_load rfl kT9 (tp rfl)) <|
      sc rfl (oA rfl (tp rfl)) <| .nil) [4] rfl (fun a16 w16 st16 => ?_)
    refine wp_ret ?_
    exact st16.ret rfl rfl h15

def m_spec_listing_s0 (x0 : Tree) (x1 : Int) (x2 : Str) (s5 : (List Str) × Int) : Option (((List Str) × Int) ⊕ (List Str)) :=
if (cmpI .lss s5.2 (x0.files.length : Int)) = true then (Option.bind (α := (List Str)) ((atI x0.files s5.2).bind fun v11 =>
if (cmpI .neq v11.root x1) = true then (some s5.1)
else (Option.bind (α := Str) (if (decide (v11.pkg = x2) && v11.init) = true then (some (⟨[42]⟩ : Str))
else (if (decide (v11.pkg = x2)) = true then (some v11.name)
else ((gO (decide (v11.pkg ≠ (⟨[]⟩ : Str)) == true) (m_spec_under v11.pkg x2)).bind fun v31 =>
if (decide (v11.pkg ≠ (⟨[]⟩ : Str)) && v31) = true then ((m_spec_firstBelow v11.pkg x2).bind fun v36 =>
(catO v36 (⟨[47]⟩ : Str)).bind fun v37 =>
some v37)
else (some (⟨[]⟩ : Str))))) fun o22 =>
if (decide (o22 ≠ (⟨[]⟩ : Str))) = true then ((m_spec_insertText s5.1 o22).bind fun v48 =>
some v48)
else (some s5.1))) fun o10 =>
(i64 (s5.2 + (1 : Int))).bind fun v52 =>
some (.inl (o10, v52)))
else (some (.inr s5.1))

def m_spec_listing (x0 : Tree) (x1 : Int) (x2 : Str) : Option (List Str) :=
Option.bind (α := (List Str)) (loopM (fun s5 => m_spec_listing_s0 x0 x1 x2 s5) ([], (0 : Int))) fun o3 =>
some o3

theorem spec_listing_w {x0 : Tree} {x1 : Int} {x2 : Str} {r : List Str} (h : m_spec_listing x0 x1 x2 = some r) : FnOwn Tryz.prog 73 [dt x0, dt x1, dt x2] 9 r := by
  unfold m_spec_listing at h
  refine fnxO (fn := Tryz.f73) 2 Tryz.func73 rfl (of_decide_eq_true rfl) rfl (fun M w0 a0 st0 => ?_)
  refine st0.sq0 (
    sc rfl (op_box rfl (tp rfl)) <|
    sc rfl (oA rfl (opd_nilTip (α := Str) (e := 9))) <| .nil) [1, 2, 3] rfl (fun a1 w1 st1 => ?_)
  refine st1.sq (
    sc rfl (op_lit0 (α := Str) (e := 9) rfl kS47) <|
    sc rfl (oA rfl (tp rfl)) <| .nil) [1, 2, 3] rfl [(7, 0)] rfl ⟨fun _ h => (by cases h), trivial⟩ (fun a2 w2 st2 => ?_)
  obtain ⟨o3, p3, k3⟩ := bs h
  refine wp_seq_join (fun a w => ∃ M1 q3_0 q3_1, Sx (Frm.of w0) 65 M M1 [oneB q3_0, oneB q3_1] [] [(7, 0, dtip q3_0 9 o3)] a w) ?_ ?_
  ·
    refine st2.sq (
      sc rfl (oA rfl cI) <| .nil) [1, 2, 3, 8] rfl [(7, 0)] rfl ⟨fun _ h => (by cases h), trivial⟩ (fun a4 w4 st4 => ?_)
    refine wp_block ?_
    refine loop_model p3 (fun s5 a w => ∃ M1 q5_0 q5_1, Sx (Frm.of w0) 65 M M1 [oneB q5_0, oneB q5_1] [(1, dt x1), (2, dt x2), (3, dptr x0), (8, dt s5.2)] [(7, 0, dtip q5_0 9 s5.1)] a w) ⟨_, _, _, st4.sel [1, 2, 3, 8] rfl [(7, 0)] rfl ⟨fun _ h => (by cases h), trivial⟩⟩ ?_
    rintro s5 x5 a5 w5 ⟨M5, q5_0, q5_1, st5⟩ hs5 hx5
    have h6 : m_spec_listing_s0 x0 x1 x2 s5 = some x5 := hs5
    unfold m_spec_listing_s0 at h6
    refine wp_seq ?_
    refine st5.sq (
        sc rfl (oM rfl (tp rfl)) <|
        sc rfl (op_field Tree.fld0 rfl kF30_0 (tp rfl)) <|
        sc rfl (op_load rfl kT28 (tp rfl)) <|
        sc rfl (op_lenL rfl kL28 (tp rfl)) <|
        sc rfl (oCI rfl (tp rfl) (tp rfl)) <| .nil) [1, 2, 3, 8, 16] rfl [(7, 0)] rfl ⟨fun _ h => h, trivial⟩ (fun a7 w7 st7 => ?_)
    refine st7.cs (c := 16) rfl h6 (fun c8 h8 => ?_) (fun c9 h9 => ?_)
    ·
      refine wp_skip ?_
      refine then_normal ?_
      obtain ⟨o10, p10, k10⟩ := bs h8
      refine wp_seq_join (fun a w => ∃ M1 q10_0 q10_1, Sx (Frm.of w0) 65 M M1 [oneB q10_0, oneB q10_1] [(1, dt x1), (2, dt x2), (3, dptr x0), (8, dt s5.2)] [(7, 0, dtip q10_0 9 o10)] a w) ?_ ?_
      ·
        refine wp_block ?_
        refine wp_seq ?_
        refine wp_region_list ?_
        obtain ⟨v11, p11, h12⟩ := bs p10
        refine st7.seg 5 (
            sc rfl (op_field Tree.fld0 rfl kF30_0 (tp rfl)) <|
            sc rfl (op_load rfl kT28 (tp rfl)) <|
            sc rfl (oM rfl (tp rfl)) <|
            sc rfl (xIdx rfl kS28 (tp rfl) (tp rfl) p11) <|
            sc rfl (op_load rfl kT94 (tp rfl)) <| .nil) [1, 2, 3, 8, 23] rfl [(7, 0)] rfl ⟨fun _ h => h, trivial⟩ (fun a13 w13 st13 => ?_)
        refine st13.alloc 1 rfl rfl kZ94 zrFile (by simp) [1, 2, 3, 8, 23] rfl [7] rfl rfl (fun b15 M15 a15 w15 st15 => ?_)
        refine st15.store (sb := 9) 1 FldS.id rfl rfl rfl kT94 rfl rfl (tp rfl) rfl [1, 2, 3, 8] rfl [7] rfl rfl (fun M17 w17 st17 => ?_)
        refine wpList_nil ?_
        refine then_normal ?_
        refine wp_seq ?_
        refine st17.sq (
            sc rfl (op_fieldBox File.fld0 rfl kF94_0 (tp rfl)) <|
            sc rfl (op_loadBox rfl kT3 (tp rfl)) <|
            sc rfl (oM rfl (tp rfl)) <|
            sc rfl (oCI rfl (tp rfl) (tp rfl)) <| .nil) [1, 2, 3, 8, 27] rfl [(7, 0), (9, 1)] rfl ⟨fun _ h => h, ⟨fun _ h => h, trivial⟩⟩ (fun a18 w18 st18 => ?_)
        refine st18.cs (c := 27) rfl h12 (fun c19 h19 => ?_) (fun c20 h20 => ?_)
        ·
          refine wp_exit (thn_exit (exit_here ?_))
          refine then_normal ?_
          obtain rfl := Option.some.inj h19
          exact ⟨_, _, _, st18.sel [1, 2, 3, 8] rfl [(7, 0)] rfl ⟨fun _ h => h, trivial⟩⟩
        ·
          refine wp_skip ?_
          refine then_normal ?_
          refine st18.sq (
              sc rfl (oA rfl (opd_str (by decide))) <| .nil) [1, 2, 3, 8, 10] rfl [(7, 0), (9, 1)] rfl ⟨fun _ h => h, ⟨fun _ h => h, trivial⟩⟩ (fun a21 w21 st21 => ?_)
          obtain ⟨o22, p22, k22⟩ := bs h20
          refine wp_seq_join (fun a w => ∃ M1 q22_0 q22_1, Sx (Frm.of w0) 65 M M1 [oneB q22_0, oneB q22_1] [(1, dt x1), (2, dt x2), (3, dptr x0), (8, dt s5.2), (10, dt o22)] [(7, 0, dtip q22_0 9 s5.1)] a w) ?_ ?_
          ·
            refine wp_block ?_
            refine st21.sq (
                sc rfl (op_fieldBox File.fld1 rfl kF94_1 (tp rfl)) <|
                sc rfl (op_loadBox rfl kT9 (tp rfl)) <|
                sc rfl (oM rfl (tp rfl)) <|
                sc rfl (op_eqS rfl (tp rfl) (tp rfl)) <|
                sc rfl (oM rfl (tp rfl)) <|
                sg rfl rfl (fun hg => op_fieldBox File.fld3 rfl kF94_3 (tp rfl)) <|
                sg rfl rfl (fun hg => op_loadBox rfl kT4 (opd_g hg rfl)) <|
                sc rfl (op_and rfl (tp rfl) (opd_tmp rfl)) <|
                sc rfl (oA rfl (tp rfl)) <| .nil) [1, 2, 3, 8, 10, 28] rfl [(7, 0), (9, 1)] rfl ⟨fun _ h => h, ⟨fun _ h => h, trivial⟩⟩ (fun a23 w23 st23 => ?_)
            refine st23.cs (c := 28) rfl p22 (fun c24 h24 => ?_) (fun c25 h25 => ?_)
            ·
              refine st23.rg (
                  sc rfl (oA rfl (opd_str (by decide))) <| .nil) [1, 2, 3, 8, 10] rfl [(7, 0)] rfl ⟨fun _ h => h, trivial⟩ (fun a26 w26 st26 => ?_)
              refine blk_normal ?_
              refine then_normal ?_
              obtain rfl := Option.some.inj h24
              exact ⟨_, _, _, st26.sel [1, 2, 3, 8, 10] rfl [(7, 0)] rfl ⟨fun _ h => h, trivial⟩⟩
            ·
              refine st23.sq (
                  sc rfl (op_fieldBox File.fld1 rfl kF94_1 (tp rfl)) <|
                  sc rfl (op_loadBox rfl kT9 (tp rfl)) <|
                  sc rfl (oM rfl (tp rfl)) <|
                  sc rfl (op_eqS rfl (tp rfl) (tp rfl)) <|
                  sc rfl (oA rfl (tp rfl)) <| .nil) [1, 2, 3, 8, 10, 37] rfl [(7, 0), (9, 1)] rfl ⟨fun _ h => h, ⟨fun _ h => h, trivial⟩⟩ (fun a27 w27 st27 => ?_)
              refine st27.cs (c := 37) rfl h25 (fun c28 h28 => ?_) (fun c29 h29 => ?_)
              ·
                refine st27.rg (
                    sc rfl (op_fieldBox File.fld2 rfl kF94_2 (tp rfl)) <|
                    sc rfl (op_loadBox rfl kT9 (tp rfl)) <|
                    sc rfl (oA rfl (tp rfl)) <| .nil) [1, 2, 3, 8, 10] rfl [(7, 0)] rfl ⟨fun _ h => h, trivial⟩ (fun a30 w30 st30 => ?_)
                refine blk_normal ?_
                refine then_normal ?_
                obtain rfl := Option.some.inj h28
                exact ⟨_, _, _, st30.sel [1, 2, 3, 8, 10] rfl [(7, 0)] rfl ⟨fun _ h => h, trivial⟩⟩
              ·
                obtain ⟨v31, p31, h32⟩ := bs h29
                refine st27.sq (
                    sc rfl (op_fieldBox File.fld1 rfl kF94_1 (tp rfl)) <|
                    sc rfl (op_loadBox rfl kT9 (tp rfl)) <|
                    sc rfl (op_neS rfl (tp rfl) (opd_str (by decide))) <|
                    sc rfl (oM rfl (tp rfl)) <|
                    sg rfl rfl (fun hg => op_fieldBox File.fld1 rfl kF94_1 (tp rfl)) <|
                    sg rfl rfl (fun hg => op_loadBox rfl kT9 (opd_g hg rfl)) <|
                    sg rfl rfl (fun hg => oM rfl (tp rfl)) <|
                    sg rfl rfl (fun hg => op_call (l := [.tmp 50, .tmp 51]) rfl kN123 (.cons (opd_g hg rfl) (.cons (opd_g hg rfl) .nil)) (spec_under_w (gh hg p31))) <|
                    sc rfl (op_and rfl (tp rfl) (opd_tmp rfl)) <|
                    sc rfl (oA rfl (tp rfl)) <| .nil) [1, 2, 3, 8, 10, 44] rfl [(7, 0), (9, 1)] rfl ⟨fun _ h => h, ⟨fun _ h => h, trivial⟩⟩ (fun a33 w33 st33 => ?_)
                refine st33.cs (c := 44) rfl h32 (fun c34 h34 => ?_) (fun c35 h35 => ?_)
                ·
                  obtain ⟨v36, p36, h38⟩ := bs h34
                  obtain ⟨v37, p37, h39⟩ := bs h38
                  refine st33.rg (
                      sc rfl (op_fieldBox File.fld1 rfl kF94_1 (tp rfl)) <|
                      sc rfl (op_loadBox rfl kT9 (tp rfl)) <|
                      sc rfl (oM rfl (tp rfl)) <|
                      sc rfl (op_call (l := [.tmp 55, .tmp 56]) rfl kN124 (.cons (tp rfl) (.cons (tp rfl) .nil)) (spec_firstBelow_w p36)) <|
                      sc rfl (xCat rfl (tp rfl) (opd_str (by decide)) p37) <|
                      sc rfl (oA rfl (tp rfl)) <| .nil) [1, 2, 3, 8, 10] rfl [(7, 0)] rfl ⟨fun _ h => h, trivial⟩ (fun a40 w40 st40 => ?_)
                  refine blk_normal ?_
                  refine then_normal ?_
                  obtain rfl := Option.some.inj h39
                  exact ⟨_, _, _, st40.sel [1, 2, 3, 8, 10] rfl [(7, 0)] rfl ⟨fun _ h => h, trivial⟩⟩
                ·
                  refine wp_skip ?_
                  refine blk_normal ?_
                  refine then_normal ?_
                  obtain rfl := Option.some.inj h35
                  exact ⟨_, _, _, st33.sel [1, 2, 3, 8, 10] rfl [(7, 0)] rfl ⟨fun _ h => h, trivial⟩⟩
          · rintro a22 w22 ⟨M22, q22_0, q22_1, st22⟩
            have h41 := k22
            refine st22.sq (
                sc rfl (oM rfl (tp rfl)) <|
                sc rfl (op_neS rfl (tp rfl) (opd_str (by decide))) <| .nil) [1, 2, 3, 8, 10, 60] rfl [(7, 0)] rfl ⟨fun _ h => h, trivial⟩ (fun a42 w42 st42 => ?_)
            refine st42.cs (c := 60) rfl h41 (fun c43 h43 => ?_) (fun c44 h44 => ?_)
            ·
              refine wp_region_list ?_
              refine st42.seg 2 (
                  sc rfl (oM rfl (tp rfl)) <|
                  sc rfl (oM rfl (tp rfl)) <| .nil) [1, 2, 3, 8, 62] rfl [(7, 0), (61, 0)] rfl ⟨fun _ h => h, ⟨fun _ h => h, trivial⟩⟩ (fun a45 w45 st45 => ?_)
              obtain ⟨v48, p48, h49⟩ := bs h43
              refine st45.take (l := [.tmp 62]) 0 rfl rfl kN56 rfl rfl (.cons (tp rfl) .nil) (spec_insertText_w p48) [1, 2, 3, 8] rfl [] rfl rfl (fun g47 M47 a47 w47 st47 => ?_)
              refine st47.seg 1 (
                  sc rfl (oA rfl (tp rfl)) <| .nil) [1, 2, 3, 8] rfl [(7, 0)] rfl ⟨fun _ h => h, trivial⟩ (fun a50 w50 st50 => ?_)
              refine wpList_nil ?_
              refine blk_normal ?_
              refine then_normal ?_
              obtain rfl := Option.some.inj h49
              exact ⟨_, _, _, st50.sel [1, 2, 3, 8] rfl [(7, 0)] rfl ⟨fun _ h => h, trivial⟩⟩
            ·
              refine wp_skip ?_
              refine blk_normal ?_
              refine then_normal ?_
              obtain rfl := Option.some.inj h44
              exact ⟨_, _, _, st42.sel [1, 2, 3, 8] rfl [(7, 0)] rfl ⟨fun _ h => h, trivial⟩⟩
      · rintro a10 w10 ⟨M10, q10_0, q10_1, st10⟩
        have h51 := k10
        obtain ⟨v52, p52, h53⟩ := bs h51
        refine st10.rg (
            sc rfl (oM rfl (tp rfl)) <|
            sc rfl (xAr rfl (tp rfl) cI p52) <|
            sc rfl (oA rfl (tp rfl)) <| .nil) [1, 2, 3, 8] rfl [(7, 0)] rfl ⟨fun _ h => h, trivial⟩ (fun a54 w54 st54 => ?_)
        refine then_normal ?_
        exact ⟨_, (Option.some.inj h53).symm, ⟨_, _, _, st54.sel [1, 2, 3, 8] rfl [(7, 0)] rfl ⟨fun _ h => h, trivial⟩⟩⟩
    ·
      refine wp_exit (thn_exit (thn_exit (exit_here ?_)))
      refine then_normal ?_
      have h55 := lo h9 hx5
      obtain rfl := Option.some.inj h55
      exact ⟨_, _, _, st7.sel [] rfl [(7, 0)] rfl ⟨fun _ h => h, trivial⟩⟩
  · rintro a3 w3 ⟨M3, q3_0, q3_1, st3⟩
    have h56 := k3
    refine st3.sq (
      sc rfl (oM rfl (tp rfl)) <|
      sc rfl (oA rfl (tp rfl)) <| .nil) [] rfl [(6, 0)] rfl ⟨fun _ h => h, trivial⟩ (fun a57 w57 st57 => ?_)
    refine wp_ret ?_
    exact st57.ret_own 0 rfl rfl (fun _ h => h) h56

def m_spec_StaleDirs_s0 (x0 : Finder) (x1 : Disk) (s13 : (List Int) × Int) : Option (((List Int) × Int) ⊕ (List Int)) :=
if (cmpI .lss s13.2 (x0.dirs.length : Int)) = true then (Option.bind (α := (List Int)) ((atI x0.dirs s13.2).bind fun v19 =>
(m_spec_stampOf x1 v19.root v19.pkg).bind fun v26 =>
(gO (cmpI .eql v19.stamp v26 == true) (m_spec_listing x1.tree v19.root v19.pkg)).bind fun v27 =>
(gO (cmpI .eql v19.stamp v26 == true) (m_spec_sameTexts v19.names v27)).bind fun v28 =>
if (cmpI .eql v19.stamp v26 && (!v28)) = true then ((appO 8 s13.1 ([s13.2] : List Int)).bind fun v38 =>
some v38)
else (some s13.1)) fun o18 =>
(i64 (s13.2 + (1 : Int))).bind fun v42 =>
some (.inl (o18, v42)))
else (some (.inr s13.1))

def m_spec_StaleDirs (x0 : Finder) (x1 : Disk) : Option (List Int) :=
(m_spec_validFinder x0).bind fun v2 =>
(gO ((!v2) == false) (m_spec_validDisk x1)).bind fun v3 =>
if ((!v2) || (!v3)) = true then (some [])
else (Option.bind (α := (List Int)) (loopM (fun s13 => m_spec_StaleDirs_s0 x0 x1 s13) ([], (0 : Int))) fun o11 =>
some o11)

theorem spec_StaleDirs_w {x0 : Finder} {x1 : Disk} {r : List Int} (h : m_spec_StaleDirs x0 x1 = some r) : FnOwn Tryz.prog 18 [dt x0, dt x1] 3 r := by
  unfold m_spec_StaleDirs at h
  refine fnxO (fn := Tryz.f18) 2 Tryz.func18 rfl (of_decide_eq_true rfl) rfl (fun M w0 a0 st0 => ?_)
  refine st0.sq0 (
    sc rfl (op_box rfl (tp rfl)) <|
    sc rfl (op_box rfl (tp rfl)) <|
    sc rfl (oA rfl (opd_nilTip (α := Int) (e := 3))) <| .nil) [2, 3] rfl (fun a1 w1 st1 => ?_)
  refine wp_seq ?_
  obtain ⟨v2, p2, h4⟩ := bs h
  obtain ⟨v3, p3, h5⟩ := bs h4
  refine st1.sq0 (
    sc rfl (op_load rfl kT39 (tp rfl)) <|
    sc rfl (op_call (l := [.tmp 8]) rfl kN69 (.cons (tp rfl) .nil) (spec_validFinder_w p2)) <|
    sc rfl (op_not rfl (tp rfl)) <|
    sc rfl (oM rfl (tp rfl)) <|
    sg rfl rfl (fun hg => op_load rfl kT41 (tp rfl)) <|
    sg rfl rfl (fun hg => op_call (l := [.tmp 12]) rfl kN70 (.cons (opd_g hg rfl) .nil) (spec_validDisk_w (gh hg p3))) <|
    sg rfl rfl (fun hg => op_not rfl (opd_g hg rfl)) <|
    sc rfl (op_or rfl (tp rfl) (opd_tmp rfl)) <| .nil) [2, 3, 15] rfl (fun a6 w6 st6 => ?_)
  refine st6.cs (c := 15) rfl h5 (fun c7 h7 => ?_) (fun c8 h8 => ?_)
  ·
    refine st6.sq (
      sc rfl (oA rfl (opd_nilTip (α := Int) (e := 3))) <| .nil) [] rfl [(4, 0)] rfl ⟨fun _ h => (by cases h), trivial⟩ (fun a9 w9 st9 => ?_)
    refine wp_ret (thn_ret ?_)
    exact st9.ret_own 0 rfl rfl (fun _ h => (by cases h)) h7
  ·
    refine wp_skip ?_
    refine then_normal ?_
    refine st6.sq (
      sc rfl (op_lit0 (α := Int) (e := 3) rfl kS25) <|
      sc rfl (oA rfl (tp rfl)) <| .nil) [2, 3] rfl [(5, 0)] rfl ⟨fun _ h => (by cases h), trivial⟩ (fun a10 w10 st10 => ?_)
    obtain ⟨o11, p11, k11⟩ := bs h8
    refine wp_seq_join (fun a w => ∃ M1 q11_0 q11_1, Sx (Frm.of w0) 56 M M1 [oneB q11_0, oneB q11_1] [] [(5, 0, dtip q11_0 3 o11)] a w) ?_ ?_
    ·
      refine st10.sq (
        sc rfl (oA rfl cI) <| .nil) [2, 3, 6] rfl [(5, 0)] rfl ⟨fun _ h => (by cases h), trivial⟩ (fun a12 w12 st12 => ?_)
      refine wp_block ?_
      refine loop_model p11 (fun s13 a w => ∃ M1 q13_0 q13_1, Sx (Frm.of w0) 56 M M1 [oneB q13_0, oneB q13_1] [(2, dptr x0), (3, dptr x1), (6, dt s13.2)] [(5, 0, dtip q13_0 3 s13.1)] a w) ⟨_, _, _, st12.sel [2, 3, 6] rfl [(5, 0)] rfl ⟨fun _ h => (by cases h), trivial⟩⟩ ?_
      rintro s13 x13 a13 w13 ⟨M13, q13_0, q13_1, st13⟩ hs13 hx13
      have h14 : m_spec_StaleDirs_s0 x0 x1 s13 = some x13 := hs13
      unfold m_spec_StaleDirs_s0 at h14
      refine wp_seq ?_
      refine st13.sq (
          sc rfl (oM rfl (tp rfl)) <|
          sc rfl (op_field Finder.fld0 rfl kF39_0 (tp rfl)) <|
          sc rfl (op_load rfl kT37 (tp rfl)) <|
          sc rfl (op_lenL rfl kL37 (tp rfl)) <|
          sc rfl (oCI rfl (tp rfl) (tp rfl)) <| .nil) [2, 3, 6, 21] rfl [(5, 0)] rfl ⟨fun _ h => h, trivial⟩ (fun a15 w15 st15 => ?_)
      refine st15.cs (c := 21) rfl h14 (fun c16 h16 => ?_) (fun c17 h17 => ?_)
      ·
        refine wp_skip ?_
        refine then_normal ?_
        obtain ⟨o18, p18, k18⟩ := bs h16
        refine wp_seq_join (fun a w => ∃ M1 q18_0 q18_1, Sx (Frm.of w0) 56 M M1 [oneB q18_0, oneB q18_1] [(2, dptr x0), (3, dptr x1), (6, dt s13.2)] [(5, 0, dtip q18_0 3 o18)] a w) ?_ ?_
        ·
          refine wp_block ?_
          refine wp_seq ?_
          refine wp_region_list ?_
          obtain ⟨v19, p19, h20⟩ := bs p18
          refine st15.seg 5 (
              sc rfl (op_field Finder.fld0 rfl kF39_0 (tp rfl)) <|
              sc rfl (op_load rfl kT37 (tp rfl)) <|
              sc rfl (oM rfl (tp rfl)) <|
              sc rfl (xIdx rfl kS37 (tp rfl) (tp rfl) p19) <|
              sc rfl (op_load rfl kT49 (tp rfl)) <| .nil) [2, 3, 6, 28] rfl [(5, 0)] rfl ⟨fun _ h => h, trivial⟩ (fun a21 w21 st21 => ?_)
          refine st21.alloc 1 rfl rfl kZ49 zrDir (by simp) [2, 3, 6, 28] rfl [5] rfl rfl (fun b23 M23 a23 w23 st23 => ?_)
          refine st23.store (sb := 7) 1 FldS.id rfl rfl rfl kT49 rfl rfl (tp rfl) rfl [2, 3, 6] rfl [5] rfl rfl (fun M25 w25 st25 => ?_)
          refine wpList_nil ?_
          refine then_normal ?_
          refine wp_seq ?_
          obtain ⟨v26, p26, h29⟩ := bs h20
          obtain ⟨v27, p27, h30⟩ := bs h29
          obtain ⟨v28, p28, h31⟩ := bs h30
          refine st25.dr (D := [_, _, _, _, _, _, _, _, _, _, _, _, _, _, _, _, _, _, _, _, _, _]) Tryz_mixed [[], [0], [], [], [3], [], [5], [2, 3, 4, 5, 6], [0, 1, 2, 3, 4, 5, 6, 7], [0, 1, 2, 3, 4, 5, 6, 7, 8], [0, 1, 2, 3, 4, 5, 6, 7, 8, 9], [0, 1, 2, 3, 4, 5, 6, 7, 8, 9, 10], [0, 1, 2, 3, 4, 5, 6, 7, 8, 9], [0, 1, 2, 3, 4, 5, 6, 7, 8, 9, 12], [0, 1, 2, 3, 4, 5, 6, 7, 8, 9], [0, 1, 2, 3, 4, 5, 6, 7, 8, 9, 14], [0, 1, 2, 3, 4, 5, 6, 7, 8, 9], [0, 1, 2, 3, 4, 5, 6, 7, 8, 9, 16], [0, 1, 2, 3, 4, 5, 6, 7, 8, 9, 12, 13, 14, 15, 16, 17], [0, 1, 2, 3, 4, 5, 6, 7, 8, 9, 10, 11, 12, 13, 14, 15, 16, 17, 18], [0, 1, 2, 3, 4, 5, 6, 7, 8, 9, 10, 11, 12, 13, 14, 15, 16, 17, 18, 19], [0, 1, 2, 3, 4, 5, 6, 7, 8, 9, 10, 11, 12, 13, 14, 15, 16, 17, 18, 19, 20]] [[(7, none)], [(29, some 0)], [(3, none)], [(7, none)], [(32, some 3)], [(7, none)], [(34, some 5)], [(31, some 2), (33, some 4), (35, some 6)], [(30, some 1), (36, some 7)], [(37, some 8)], [(7, none), (38, some 9)], [(39, some 10), (38, some 9)], [(3, none), (38, some 9)], [(41, some 12), (38, some 9)], [(7, none), (38, some 9)], [(43, some 14), (38, some 9)], [(7, none), (38, some 9)], [(45, some 16), (38, some 9)], [(42, some 13), (44, some 15), (46, some 17), (38, some 9)], [(40, some 11), (47, some 18), (38, some 9)], [(48, some 19), (38, some 9)], [(38, some 9), (49, some 20)]] (by decide +kernel) (
            rc rfl rfl (op_fieldBox Dir.fld2 rfl kF49_2 (tp rfl)) <|
              rc rfl rfl (op_loadBox rfl kT3 (tp rfl)) <|
              rc rfl rfl (op_load rfl kT41 (tp rfl)) <|
              rc rfl rfl (op_fieldBox Dir.fld0 rfl kF49_0 (tp rfl)) <|
              rc rfl rfl (op_loadBox rfl kT3 (tp rfl)) <|
              rc rfl rfl (op_fieldBox Dir.fld1 rfl kF49_1 (tp rfl)) <|
              rc rfl rfl (op_loadBox rfl kT9 (tp rfl)) <|
              rc rfl rfl (op_call (l := [.tmp 31, .tmp 33, .tmp 35]) rfl kN71 (.cons (tp rfl) (.cons (tp rfl) (.cons (tp rfl) .nil))) (spec_stampOf_w p26)) <|
              rc rfl rfl (oCI rfl (tp rfl) (tp rfl)) <|
              rc rfl rfl (oM rfl (tp rfl)) <|
              rg rfl rfl rfl (fun hg => op_fieldBox Dir.fld3 rfl kF49_3 (tp rfl)) <|
              rg rfl rfl rfl (fun hg => op_loadBox rfl kT47 (opd_g hg rfl)) <|
              rg rfl rfl rfl (fun hg => op_field Disk.fld0 rfl kF41_0 (tp rfl)) <|
              rg rfl rfl rfl (fun hg => op_load rfl kT30 (opd_g hg rfl)) <|
              rg rfl rfl rfl (fun hg => op_fieldBox Dir.fld0 rfl kF49_0 (tp rfl)) <|
              rg rfl rfl rfl (fun hg => op_loadBox rfl kT3 (opd_g hg rfl)) <|
              rg rfl rfl rfl (fun hg => op_fieldBox Dir.fld1 rfl kF49_1 (tp rfl)) <|
              rg rfl rfl rfl (fun hg => op_loadBox rfl kT9 (opd_g hg rfl)) <|
              rg rfl rfl rfl (fun hg => op_call (l := [.tmp 42, .tmp 44, .tmp 46]) rfl kN73 (.cons (opd_g hg rfl) (.cons (opd_g hg rfl) (.cons (opd_g hg rfl) .nil))) ((spec_listing_w (gh hg p27))).fn) <|
              rg rfl rfl rfl (fun hg => op_call (l := [.tmp 40, .tmp 47]) rfl kN72 (.cons (opd_g hg rfl) (.cons (opd_g hg rfl) .nil)) (spec_sameTexts_w (gh hg p28))) <|
              rg rfl rfl rfl (fun hg => op_not rfl (opd_g hg rfl)) <|
              rc rfl rfl (op_and rfl (tp rfl) (opd_tmp rfl)) <| .nil) [2, 3, 6, 50] rfl [(5, 0)] rfl ⟨fun _ h => h, trivial⟩ (fun a32 w32 st32 => ?_)
          refine then_normal ?_
          refine st32.cs (c := 50) rfl h31 (fun c33 h33 => ?_) (fun c34 h34 => ?_)
          ·
            refine wp_region_list ?_
            refine st32.seg 3 (
                sc rfl (oM rfl (tp rfl)) <|
                sc rfl (oM rfl (tp rfl)) <|
                sc rfl (op_lit (opds := [.tmp 52]) rfl kS25 kY25 rfl rfl (by decide) (.cons (tp rfl) .nil)) <| .nil) [2, 3, 6, 53] rfl [(5, 0), (51, 0)] rfl ⟨fun _ h => h, ⟨fun _ h => h, trivial⟩⟩ (fun a35 w35 st35 => ?_)
            obtain ⟨v38, p38, h39⟩ := bs h33
            refine st35.app 0 rfl rfl kE25 rfl rfl rfl row_dt p38 [2, 3, 6] rfl [] rfl rfl (fun g37 M37 a37 w37 st37 => ?_)
            refine st37.seg 1 (
                sc rfl (oA rfl (tp rfl)) <| .nil) [2, 3, 6] rfl [(5, 0)] rfl ⟨fun _ h => h, trivial⟩ (fun a40 w40 st40 => ?_)
            refine wpList_nil ?_
            refine blk_normal ?_
            refine then_normal ?_
            obtain rfl := Option.some.inj h39
            exact ⟨_, _, _, st40.sel [2, 3, 6] rfl [(5, 0)] rfl ⟨fun _ h => h, trivial⟩⟩
          ·
            refine wp_skip ?_
            refine blk_normal ?_
            refine then_normal ?_
            obtain rfl := Option.some.inj h34
            exact ⟨_, _, _, st32.sel [2, 3, 6] rfl [(5, 0)] rfl ⟨fun _ h => h, trivial⟩⟩
        · rintro a18 w18 ⟨M18, q18_0, q18_1, st18⟩
          have h41 := k18
          obtain ⟨v42, p42, h43⟩ := bs h41
          refine st18.rg (
              sc rfl (oM rfl (tp rfl)) <|
              sc rfl (xAr rfl (tp rfl) cI p42) <|
              sc rfl (oA rfl (tp rfl)) <| .nil) [2, 3, 6] rfl [(5, 0)] rfl ⟨fun _ h => h, trivial⟩ (fun a44 w44 st44 => ?_)
          refine then_normal ?_
          exact ⟨_, (Option.some.inj h43).symm, ⟨_, _, _, st44.sel [2, 3, 6] rfl [(5, 0)] rfl ⟨fun _ h => h, trivial⟩⟩⟩
      ·
        refine wp_exit (thn_exit (thn_exit (exit_here ?_)))
        refine then_normal ?_
        have h45 := lo h17 hx13
        obtain rfl := Option.some.inj h45
        exact ⟨_, _, _, st15.sel [] rfl [(5, 0)] rfl ⟨fun _ h => h, trivial⟩⟩
    · rintro a11 w11 ⟨M11, q11_0, q11_1, st11⟩
      have h46 := k11
      refine st11.sq (
        sc rfl (oM rfl (tp rfl)) <|
        sc rfl (oA rfl (tp rfl)) <| .nil) [] rfl [(4, 0)] rfl ⟨fun _ h => h, trivial⟩ (fun a47 w47 st47 => ?_)
      refine wp_ret ?_
      exact st47.ret_own 0 rfl rfl (fun _ h => h) h46

def m_laws_FnExactStaleDirs (x0 : Finder) (x1 : Disk) : Option Bool :=
(m_laws_szFinder x0 (1048576 : Int)).bind fun v3 =>
if (cmpI .lss v3 (0 : Int)) = true then (some true)
else ((m_laws_szDisk x1 v3).bind fun v10 =>
if (cmpI .lss v10 (0 : Int)) = true then (some true)
else ((m_laws_toFinder x0).bind fun v17 =>
(m_laws_toDisk x1).bind fun v18 =>
(m_spec_StaleDirs v17 v18).bind fun v19 =>
(m_laws_toFinder x0).bind fun v26 =>
(m_laws_toDisk x1).bind fun v35 =>
(m_impl_StaleDirs v26 v35).bind fun v46 =>
(m_laws_eqIntS v46 v19).bind fun v53 =>
if (!v53) = true then (some false)
else ((m_laws_toFinder x0).bind fun v60 =>
(m_laws_eqFinder v26 v60).bind fun v61 =>
if (!v61) = true then (some false)
else ((m_laws_toDisk x1).bind fun v70 =>
(m_laws_eqDisk v35 v70).bind fun v71 =>
if (!v71) = true then (some false)
else ((m_laws_markFinder v26 (1 : Int)).bind fun v83 =>
(m_laws_markDisk v35 v83.2).bind fun v90 =>
(gO (cmpI .lss v90.2 (0 : Int) == false) (m_laws_eqIntS v46 v19)).bind fun v94 =>
if (cmpI .lss v90.2 (0 : Int) || (!v94)) = true then (some false)
else ((m_laws_markIntS v46 (1 : Int)).bind fun v103 =>
(m_laws_heldIntS v103.1 (1 : Int)).bind fun v108 =>
if (cmpI .lss v108 (0 : Int)) = true then (some false)
else (if (cmpI .neq v108 v103.2) = true then (some false)
else ((m_laws_toFinder x0).bind fun v119 =>
(m_laws_toDisk x1).bind fun v120 =>
(m_impl_StaleDirs v119 v120).bind fun v121 =>
(m_laws_eqIntS v121 v19).bind fun v126 =>
if (!v126) = true then (some false)
else ((m_laws_heldIntS v103.1 (1 : Int)).bind fun v133 =>
if (cmpI .lss v133 (0 : Int)) = true then (some false)
else (if (cmpI .neq v133 v103.2) = true then (some false)
else (some true)))))))))))

theorem laws_FnExactStaleDirs_w {x0 : Finder} {x1 : Disk} {r : Bool} (h : m_laws_FnExactStaleDirs x0 x1 = some r) : Fn Tryz.prog 7 [dt x0, dt x1] (dt r) := by
  unfold m_laws_FnExactStaleDirs at h
  refine fnx (fn := Tryz.f7) 5 Tryz.func7 rfl (of_decide_eq_true rfl) rfl (fun M w0 a0 st0 => ?_)
  refine st0.sq0 (
    sc rfl (op_box rfl (tp rfl)) <|
    sc rfl (op_box rfl (tp rfl)) <|
    sc rfl (oA rfl cB) <| .nil) [2, 3] rfl (fun a1 w1 st1 => ?_)
  refine st1.sq0 (
    sc rfl (oA rfl cI) <| .nil) [2, 3, 5] rfl (fun a2 w2 st2 => ?_)
  obtain ⟨v3, p3, h4⟩ := bs h
  refine st2.sq0 (
    sc rfl (op_load rfl kT71 (tp rfl)) <|
    sc rfl (oM rfl (tp rfl)) <|
    sc rfl (op_call (l := [.tmp 14, .tmp 15]) rfl kN43 (.cons (tp rfl) (.cons (tp rfl) .nil)) (laws_szFinder_w p3)) <|
    sc rfl (oA rfl (tp rfl)) <| .nil) [2, 3, 5] rfl (fun a5 w5 st5 => ?_)
  refine wp_seq ?_
  refine st5.sq0 (
    sc rfl (oM rfl (tp rfl)) <|
    sc rfl (oCI rfl (tp rfl) cI) <| .nil) [2, 3, 5, 18] rfl (fun a6 w6 st6 => ?_)
  refine st6.cs (c := 18) rfl h4 (fun c7 h7 => ?_) (fun c8 h8 => ?_)
  ·
    refine st6.sq0 (
      sc rfl (oA rfl cB) <| .nil) [4] rfl (fun a9 w9 st9 => ?_)
    refine wp_ret (thn_ret ?_)
    exact st9.ret rfl rfl h7
  ·
    refine wp_skip ?_
    refine then_normal ?_
    obtain ⟨v10, p10, h11⟩ := bs h8
    refine st6.sq0 (
      sc rfl (op_load rfl kT73 (tp rfl)) <|
      sc rfl (oM rfl (tp rfl)) <|
      sc rfl (op_call (l := [.tmp 19, .tmp 20]) rfl kN44 (.cons (tp rfl) (.cons (tp rfl) .nil)) (laws_szDisk_w p10)) <|
      sc rfl (oA rfl (tp rfl)) <| .nil) [2, 3, 5] rfl (fun a12 w12 st12 => ?_)
    refine wp_seq ?_
    refine st12.sq0 (
      sc rfl (oM rfl (tp rfl)) <|
      sc rfl (oCI rfl (tp rfl) cI) <| .nil) [2, 3, 23] rfl (fun a13 w13 st13 => ?_)
    refine st13.cs (c := 23) rfl h11 (fun c14 h14 => ?_) (fun c15 h15 => ?_)
    ·
      refine st13.sq0 (
        sc rfl (oA rfl cB) <| .nil) [4] rfl (fun a16 w16 st16 => ?_)
      refine wp_ret (thn_ret ?_)
      exact st16.ret rfl rfl h14
    ·
      refine wp_skip ?_
      refine then_normal ?_
      refine wp_seq ?_
      obtain ⟨v17, p17, h20⟩ := bs h15
      obtain ⟨v18, p18, h21⟩ := bs h20
      obtain ⟨v19, p19, h22⟩ := bs h21
      refine st13.dr (D := [_, _, _, _, _, _]) Tryz_mixed [[], [0], [], [0, 1, 2], [0, 1, 2, 3], [0, 1, 2, 3, 4]] [[(2, none)], [(24, some 0)], [(3, none)], [(26, some 2)], [(25, some 1), (27, some 3)], [(28, some 4)]] (by decide +kernel) (
        rc rfl rfl (op_load rfl kT71 (tp rfl)) <|
        rc rfl rfl (op_call (l := [.tmp 24]) rfl kN45 (.cons (tp rfl) .nil) (FnN.fn <| laws_toFinder_w p17)) <|
        rc rfl rfl (op_load rfl kT73 (tp rfl)) <|
        rc rfl rfl (op_call (l := [.tmp 26]) rfl kN46 (.cons (tp rfl) .nil) (FnN.fn <| laws_toDisk_w p18)) <|
        rc rfl rfl (op_call (l := [.tmp 25, .tmp 27]) rfl kN18 (.cons (tp rfl) (.cons (tp rfl) .nil)) ((spec_StaleDirs_w p19)).fn) <|
        rc rfl rfl (oA rfl (tp rfl)) <| .nil) [2, 3, 6] rfl [] rfl trivial (fun a23 w23 st23 => ?_)
      refine then_normal ?_
      refine wp_seq ?_
      refine wp_region_list ?_
      refine st23.seg 1 (
        sc rfl (op_load rfl kT71 (tp rfl)) <| .nil) [2, 3, 6, 29] rfl [] rfl trivial (fun a24 w24 st24 => ?_)
      obtain ⟨v26, p26, h27⟩ := bs h22
      refine st24.cN (l := [.tmp 29]) 0 rfl rfl kN45 (.cons (tp rfl) .nil) (laws_toFinder_w p26) (by simp) [2, 3, 6] rfl [] rfl rfl (fun G25 M25 a25 w25 st25 => ?_)
      have st28 := st25.gs (Gs' := [G25, oneB none, oneB none, oneB none, oneB none]) rfl
      refine st28.alcW (ow := (owFinder (Ow.row 49 (owDir (Ow.row 9 (Ow.frz (α := Str))))))) 3 rfl rfl kZ39 (owFinder.z Ow.row_z) (by simp) [2, 3, 6] rfl [30] rfl rfl (fun b29 M29 a29 w29 st29 => ?_)
      have st30 := st29.gs (Gs' := [G25, oneB none, oneB none, (oneB (some b29)), oneB none]) rfl
      refine st30.stO (sb := 7) (tv := 30) 3 0 (PV.root.box rfl) rfl rfl rfl kT39 (by simp) (by simp) (by decide) (opd_nm rfl) rfl rfl rfl (fun _ h => h) (fun _ h => h) [2, 3, 6] rfl [] rfl rfl rfl (fun G31 w31 st31 => ?_)
      have st32 := st31.gs (Gs' := [oneB none, oneB none, oneB none, G31, oneB none]) rfl
      refine wpList_nil ?_
      refine then_normal ?_
      refine wp_seq ?_
      refine wp_region_list ?_
      refine st32.seg 1 (
        sc rfl (op_load rfl kT73 (tp rfl)) <| .nil) [2, 3, 6, 31] rfl [(7, 3)] rfl ⟨fun _ h => h, trivial⟩ (fun a33 w33 st33 => ?_)
      obtain ⟨v35, p35, h36⟩ := bs h27
      refine st33.cN (l := [.tmp 31]) 1 rfl rfl kN46 (.cons (tp rfl) .nil) (laws_toDisk_w p35) (by simp) [2, 3, 6] rfl [7] rfl rfl (fun G34 M34 a34 w34 st34 => ?_)
      have st37 := st34.gs (Gs' := [oneB none, G34, oneB none, G31, oneB none]) rfl
      refine st37.alcW (ow := (owDisk (owTree (Ow.row 94 (owFile (Ow.row 140 (Ow.frz (α := Stmt)))))) (Ow.row 49 (owDir (Ow.row 9 (Ow.frz (α := Str))))))) 4 rfl rfl kZ41 (owDisk.z (owTree.z Ow.row_z) Ow.row_z) (by simp) [2, 3, 6] rfl [7, 32] rfl rfl (fun b38 M38 a38 w38 st38 => ?_)
      have st39 := st38.gs (Gs' := [oneB none, G34, oneB none, G31, (oneB (some b38))]) rfl
      refine st39.stO (sb := 8) (tv := 32) 4 1 (PV.root.box rfl) rfl rfl rfl kT41 (by simp) (by simp) (by decide) (opd_nm rfl) rfl rfl rfl (fun _ h => h) (fun _ h => h) [2, 3, 6] rfl [7] rfl rfl rfl (fun G40 w40 st40 => ?_)
      have st41 := st40.gs (Gs' := [oneB none, oneB none, oneB none, G31, G40]) rfl
      refine wpList_nil ?_
      refine then_normal ?_
      refine wp_seq ?_
      refine wp_region_list ?_
      refine st41.hdW (s := 7) 3 true (fun _ => (PV.root.box rfl)) rfl rfl (fun _ h => h) [8] rfl (fun cs42 hS42 st42 => ?_)
      refine st42.hdW (s := 8) 4 true (fun _ => (PV.root.box rfl)) rfl rfl (fun _ h => h) [7] rfl (fun cs43 hS43 st43 => ?_)
      refine st43.seg 2 (
        sc rfl (xLw (sb := 7) (.head _) rfl (hS42 rfl) rfl kT39 (opd_nm rfl) rfl) <|
        sc rfl (xLw (sb := 8) (.head _) rfl (hS43 rfl) rfl kT41 (opd_nm rfl) rfl) <| .nil) [2, 3, 6, 33, 34] rfl [(7, 3), (8, 4)] rfl ⟨fun _ h => h, ⟨fun _ h => h, trivial⟩⟩ (fun a44 w44 st44 => ?_)
      obtain ⟨v46, p46, h47⟩ := bs h36
      refine st44.cNb (l := [.tmp 33, .tmp 34]) 2 rfl rfl kN16 st44.ob.sub (.cons (lendP (sb := 7) st44.ob 3 (PV.root.box rfl) (.head _) rfl (fits_all rfl (hS42 rfl)) (tp rfl) rfl (fun _ h => h)) (.cons (lendP (sb := 8) st44.ob 4 (PV.root.box rfl) (.head _) rfl (fits_all rfl (hS43 rfl)) (tp rfl) rfl (fun _ h => h)) .nil)) (impl_StaleDirs_w p46).n (full_row full_int) (by simp) [2, 3, 6] rfl [7, 8] rfl rfl (fun G45 M45 a45 w45 st45 => ?_)
      have st48 := st45.gs (Gs' := [oneB none, oneB none, G45, G31, G40]) rfl
      refine st48.nmR (s := 35) 2 rfl rfl (fun _ h => h) [7, 8] rfl (fun g49 A49 c49 hA49 st49 => ?_)
      refine st49.seg 1 (
        sc rfl (oA rfl (tp rfl)) <| .nil) [2, 3, 6] rfl [(7, 3), (8, 4), (9, 2)] rfl ⟨fun _ h => h, ⟨fun _ h => h, ⟨fun _ h => h, trivial⟩⟩⟩ (fun a50 w50 st50 => ?_)
      refine wpList_nil ?_
      have st51 := st50.ncf (s := 7) 3 rfl rfl (fun _ h => h) [8, 9] rfl
      have st52 := st51.ncf (s := 8) 4 rfl rfl (fun _ h => h) [7, 9] rfl
      refine then_normal ?_
      refine wp_seq ?_
      obtain ⟨v53, p53, h54⟩ := bs h47
      refine st52.sq (
        sc rfl (oM rfl (tp rfl)) <|
        sc rfl (oM rfl (tp rfl)) <|
        sc rfl (op_callT (l := [.tmp 36, .tmp 37]) st52.ob.sub rfl kN14 (.cons (lendN st52.ob 2 (fun _ h => h) (tp rfl)) (.cons (opd2_of st52.ob.sub (tp rfl)) .nil)) (laws_eqIntS_w p53) flat_bool) <|
        sc rfl (op_not rfl (tp rfl)) <| .nil) [2, 3, 6, 39] rfl [(7, 3), (8, 4), (9, 2)] rfl ⟨fun _ h => h, ⟨fun _ h => h, ⟨fun _ h => h, trivial⟩⟩⟩ (fun a55 w55 st55 => ?_)
      refine st55.cs (c := 39) rfl h54 (fun c56 h56 => ?_) (fun c57 h57 => ?_)
      ·
        refine st55.sq0 (
          sc rfl (oA rfl cB) <| .nil) [4] rfl (fun a58 w58 st58 => ?_)
        refine wp_ret (thn_ret ?_)
        exact st58.ret rfl rfl h56
      ·
        refine wp_skip ?_
        refine then_normal ?_
        refine wp_seq ?_
        refine wp_seq ?_
        obtain ⟨v60, p60, h62⟩ := bs h57
        obtain ⟨v61, p61, h63⟩ := bs h62
        refine st55.hdW (s := 7) 3 true (fun _ => (PV.root.box rfl)) rfl rfl (fun _ h => h) [8, 9] rfl (fun cs59 hS59 st59 => ?_)
        refine st59.dr (D := [_, _, _, _, _]) Tryz_mixed [[], [], [1], [0, 1, 2], [0, 1, 2, 3]] [[(7, none)], [(2, none)], [(41, some 1)], [(40, some 0), (42, some 2), (7, none)], [(43, some 3)]] (by decide +kernel) (
          rc rfl rfl (xLw (sb := 7) (.head _) rfl (hS59 rfl) rfl kT39 (opd_nm rfl) rfl) <|
          rc rfl rfl (op_load rfl kT71 (tp rfl)) <|
          rc rfl rfl (op_call (l := [.tmp 41]) rfl kN45 (.cons (tp rfl) .nil) (FnN.fn <| laws_toFinder_w p60)) <|
          rc rfl rfl (op_callT (l := [.tmp 40, .tmp 42]) st59.ob.sub rfl kN47 (.cons (lendP (sb := 7) st59.ob 3 (PV.root.box rfl) (.head _) rfl (fits_all rfl (hS59 rfl)) (tp rfl) rfl (fun _ h => h)) (.cons (opd2_of st59.ob.sub (tp rfl)) .nil)) (laws_eqFinder_w p61) flat_bool) <|
          rc rfl rfl (op_not rfl (tp rfl)) <| .nil) [2, 3, 6, 44] rfl [(7, 3), (8, 4), (9, 2)] rfl ⟨fun _ h => h, ⟨fun _ h => h, ⟨fun _ h => h, trivial⟩⟩⟩ (fun a64 w64 st64 => ?_)
        have st65 := st64.ncf (s := 7) 3 rfl rfl (fun _ h => h) [8, 9] rfl
        refine then_normal ?_
        refine st65.cs (c := 44) rfl h63 (fun c66 h66 => ?_) (fun c67 h67 => ?_)
        ·
          refine st65.sq0 (
            sc rfl (oA rfl cB) <| .nil) [4] rfl (fun a68 w68 st68 => ?_)
          refine wp_ret (thn_ret ?_)
          exact st68.ret rfl rfl h66
        ·
          refine wp_skip ?_
          refine then_normal ?_
          refine wp_seq ?_
          refine wp_seq ?_
          obtain ⟨v70, p70, h72⟩ := bs h67
          obtain ⟨v71, p71, h73⟩ := bs h72
          refine st65.hdW (s := 8) 4 true (fun _ => (PV.root.box rfl)) rfl rfl (fun _ h => h) [7, 9] rfl (fun cs69 hS69 st69 => ?_)
          refine st69.dr (D := [_, _, _, _, _]) Tryz_mixed [[], [], [1], [0, 1, 2], [0, 1, 2, 3]] [[(8, none)], [(3, none)], [(46, some 1)], [(45, some 0), (47, some 2), (8, none)], [(48, some 3)]] (by decide +kernel) (
            rc rfl rfl (xLw (sb := 8) (.head _) rfl (hS69 rfl) rfl kT41 (opd_nm rfl) rfl) <|
            rc rfl rfl (op_load rfl kT73 (tp rfl)) <|
            rc rfl rfl (op_call (l := [.tmp 46]) rfl kN46 (.cons (tp rfl) .nil) (FnN.fn <| laws_toDisk_w p70)) <|
            rc rfl rfl (op_callT (l := [.tmp 45, .tmp 47]) st69.ob.sub rfl kN48 (.cons (lendP (sb := 8) st69.ob 4 (PV.root.box rfl) (.head _) rfl (fits_all rfl (hS69 rfl)) (tp rfl) rfl (fun _ h => h)) (.cons (opd2_of st69.ob.sub (tp rfl)) .nil)) (laws_eqDisk_w p71) flat_bool) <|
            rc rfl rfl (op_not rfl (tp rfl)) <| .nil) [2, 3, 6, 49] rfl [(7, 3), (8, 4), (9, 2)] rfl ⟨fun _ h => h, ⟨fun _ h => h, ⟨fun _ h => h, trivial⟩⟩⟩ (fun a74 w74 st74 => ?_)
          have st75 := st74.ncf (s := 8) 4 rfl rfl (fun _ h => h) [7, 9] rfl
          refine then_normal ?_
          refine st75.cs (c := 49) rfl h73 (fun c76 h76 => ?_) (fun c77 h77 => ?_)
          ·
            refine st75.sq0 (
              sc rfl (oA rfl cB) <| .nil) [4] rfl (fun a78 w78 st78 => ?_)
            refine wp_ret (thn_ret ?_)
            exact st78.ret rfl rfl h76
          ·
            refine wp_skip ?_
            refine then_normal ?_
            refine st75.sq (
              sc rfl (oA rfl cI) <| .nil) [2, 3, 6, 10] rfl [(7, 3), (8, 4), (9, 2)] rfl ⟨fun _ h => h, ⟨fun _ h => h, ⟨fun _ h => h, trivial⟩⟩⟩ (fun a79 w79 st79 => ?_)
            refine wp_seq ?_
            refine wp_region_list ?_
            refine st79.hdW (s := 7) 3 true (fun _ => (PV.root.box rfl)) rfl rfl (fun _ h => h) [8, 9] rfl (fun cs80 hS80 st80 => ?_)
            refine st80.seg 2 (
              sc rfl (xLw (sb := 7) (.head _) rfl (hS80 rfl) rfl kT39 (opd_nm rfl) rfl) <|
              sc rfl (oM rfl (tp rfl)) <| .nil) [2, 3, 6, 10, 50, 51] rfl [(7, 3), (8, 4), (9, 2)] rfl ⟨fun _ h => h, ⟨fun _ h => h, ⟨fun _ h => h, trivial⟩⟩⟩ (fun a81 w81 st81 => ?_)
            obtain ⟨v83, p83, h84⟩ := bs h77
            refine st81.cSF (l := [.tmp 51]) 3 (st81.bkH (sb := 7) (PV.root.box rfl) (.head _) rfl (fits_all rfl (hS80 rfl)) rfl (fun _ h => h)) rfl rfl kN49 (st81.st.has 50 _ rfl) (by simp) (.cons (tp rfl) .nil) (laws_markFinder_w p83) [2, 3, 6, 10] rfl [8, 9] rfl rfl (by decide) (fun G82 M82 a82 w82 st82 => ?_)
            have st85 := st82.gs (Gs' := [oneB none, oneB none, G45, G82, G40]) rfl
            refine st85.seg 1 (
              sc rfl (oA rfl (tp rfl)) <| .nil) [2, 3, 6, 10] rfl [(8, 4), (9, 2)] rfl ⟨fun _ h => h, ⟨fun _ h => h, trivial⟩⟩ (fun a86 w86 st86 => ?_)
            refine wpList_nil ?_
            refine then_normal ?_
            refine wp_seq ?_
            refine wp_region_list ?_
            refine st86.hdW (s := 8) 4 true (fun _ => (PV.root.box rfl)) rfl rfl (fun _ h => h) [9] rfl (fun cs87 hS87 st87 => ?_)
            refine st87.seg 2 (
              sc rfl (xLw (sb := 8) (.head _) rfl (hS87 rfl) rfl kT41 (opd_nm rfl) rfl) <|
              sc rfl (oM rfl (tp rfl)) <| .nil) [2, 3, 6, 10, 53, 54] rfl [(8, 4), (9, 2)] rfl ⟨fun _ h => h, ⟨fun _ h => h, trivial⟩⟩ (fun a88 w88 st88 => ?_)
            obtain ⟨v90, p90, h91⟩ := bs h84
            refine st88.cSF (l := [.tmp 54]) 4 (st88.bkH (sb := 8) (PV.root.box rfl) (.head _) rfl (fits_all rfl (hS87 rfl)) rfl (fun _ h => h)) rfl rfl kN50 (st88.st.has 53 _ rfl) (by simp) (.cons (tp rfl) .nil) (laws_markDisk_w p90) [2, 3, 6, 10] rfl [9] rfl rfl (by decide) (fun G89 M89 a89 w89 st89 => ?_)
            have st92 := st89.gs (Gs' := [oneB none, oneB none, G45, G82, G89]) rfl
            refine st92.seg 1 (
              sc rfl (oA rfl (tp rfl)) <| .nil) [2, 3, 6, 10] rfl [(9, 2)] rfl ⟨fun _ h => h, trivial⟩ (fun a93 w93 st93 => ?_)
            refine wpList_nil ?_
            refine then_normal ?_
            refine wp_seq ?_
            obtain ⟨v94, p94, h95⟩ := bs h91
            refine st93.sq (
              sc rfl (oM rfl (tp rfl)) <|
              sc rfl (oCI rfl (tp rfl) cI) <|
              sc rfl (oM rfl (tp rfl)) <|
              sg rfl rfl (fun hg => oM rfl (tp rfl)) <|
              sg rfl rfl (fun hg => oM rfl (tp rfl)) <|
              sg rfl rfl (fun hg => op_callT (l := [.tmp 59, .tmp 60]) st93.ob.sub rfl kN14 (.cons (lendN st93.ob 2 (fun _ h => h) (opd_g hg rfl)) (.cons (opd2_of st93.ob.sub (opd_g hg rfl)) .nil)) (laws_eqIntS_w (gh hg p94)) flat_bool) <|
              sg rfl rfl (fun hg => op_not rfl (opd_g hg rfl)) <|
              sc rfl (op_or rfl (tp rfl) (opd_tmp rfl)) <| .nil) [2, 3, 6, 63] rfl [(9, 2)] rfl ⟨fun _ h => h, trivial⟩ (fun a96 w96 st96 => ?_)
            refine st96.cs (c := 63) rfl h95 (fun c97 h97 => ?_) (fun c98 h98 => ?_)
            ·
              refine st96.sq0 (
                sc rfl (oA rfl cB) <| .nil) [4] rfl (fun a99 w99 st99 => ?_)
              refine wp_ret (thn_ret ?_)
              exact st99.ret rfl rfl h97
            ·
              refine wp_skip ?_
              refine then_normal ?_
              refine st96.sq (
                sc rfl (oA rfl cI) <| .nil) [2, 3, 6, 11] rfl [(9, 2)] rfl ⟨fun _ h => h, trivial⟩ (fun a100 w100 st100 => ?_)
              refine wp_seq ?_
              refine wp_region_list ?_
              refine st100.seg 2 (
                sc rfl (oM rfl (tp rfl)) <|
                sc rfl (oM rfl (tp rfl)) <| .nil) [2, 3, 6, 11, 65] rfl [(9, 2), (64, 2)] rfl ⟨fun _ h => h, ⟨fun _ h => h, trivial⟩⟩ (fun a101 w101 st101 => ?_)
              obtain ⟨v103, p103, h104⟩ := bs h98
              refine st101.cSF (l := [.tmp 65]) 2 (st101.bkN (s := 9) rfl (fun _ h => h)) rfl rfl kN40 ((st101.st.has 64 _ rfl).1.trans (st101.st.has 9 _ rfl).1.symm) (by simp) (.cons (tp rfl) .nil) (laws_markIntS_w p103) [2, 3, 6, 11] rfl [] rfl rfl (by decide) (fun G102 M102 a102 w102 st102 => ?_)
              have st105 := st102.gs (Gs' := [oneB none, oneB none, G102, G82, G89]) rfl
              refine st105.seg 1 (
                sc rfl (oA rfl (tp rfl)) <| .nil) [2, 3, 6, 11] rfl [(9, 2)] rfl ⟨fun _ h => h, trivial⟩ (fun a106 w106 st106 => ?_)
              refine wpList_nil ?_
              refine then_normal ?_
              refine st106.sq (
                sc rfl (oA rfl cI) <| .nil) [2, 3, 6, 11, 12] rfl [(9, 2)] rfl ⟨fun _ h => h, trivial⟩ (fun a107 w107 st107 => ?_)
              obtain ⟨v108, p108, h109⟩ := bs h104
              refine st107.sq (
                sc rfl (oM rfl (tp rfl)) <|
                sc rfl (oM rfl (tp rfl)) <|
                sc rfl (op_callT (l := [.tmp 67, .tmp 68]) st107.ob.sub rfl kN51 (.cons (lendN st107.ob 2 (fun _ h => h) (tp rfl)) (.cons (opd2_of st107.ob.sub (tp rfl)) .nil)) (laws_heldIntS_w p108) flat_int) <|
                sc rfl (oA rfl (tp rfl)) <| .nil) [2, 3, 6, 11, 12] rfl [(9, 2)] rfl ⟨fun _ h => h, trivial⟩ (fun a110 w110 st110 => ?_)
              refine wp_seq ?_
              refine st110.sq (
                sc rfl (oM rfl (tp rfl)) <|
                sc rfl (oCI rfl (tp rfl) cI) <| .nil) [2, 3, 6, 11, 12, 71] rfl [(9, 2)] rfl ⟨fun _ h => h, trivial⟩ (fun a111 w111 st111 => ?_)
              refine st111.cs (c := 71) rfl h109 (fun c112 h112 => ?_) (fun c113 h113 => ?_)
              ·
                refine st111.sq0 (
                  sc rfl (oA rfl cB) <| .nil) [4] rfl (fun a114 w114 st114 => ?_)
                refine wp_ret (thn_ret ?_)
                exact st114.ret rfl rfl h112
              ·
                refine wp_skip ?_
                refine then_normal ?_
                refine wp_seq ?_
                refine st111.sq (
                  sc rfl (oM rfl (tp rfl)) <|
                  sc rfl (oM rfl (tp rfl)) <|
                  sc rfl (oCI rfl (tp rfl) (tp rfl)) <| .nil) [2, 3, 6, 11, 74] rfl [(9, 2)] rfl ⟨fun _ h => h, trivial⟩ (fun a115 w115 st115 => ?_)
                refine st115.cs (c := 74) rfl h113 (fun c116 h116 => ?_) (fun c117 h117 => ?_)
                ·
                  refine st115.sq0 (
                    sc rfl (oA rfl cB) <| .nil) [4] rfl (fun a118 w118 st118 => ?_)
                  refine wp_ret (thn_ret ?_)
                  exact st118.ret rfl rfl h116
                ·
                  refine wp_skip ?_
                  refine then_normal ?_
                  refine wp_seq ?_
                  obtain ⟨v119, p119, h122⟩ := bs h117
                  obtain ⟨v120, p120, h123⟩ := bs h122
                  obtain ⟨v121, p121, h124⟩ := bs h123
                  refine st115.dr (D := [_, _, _, _, _, _]) Tryz_mixed [[], [0], [], [0, 1, 2], [0, 1, 2, 3], [0, 1, 2, 3, 4]] [[(2, none)], [(75, some 0)], [(3, none)], [(77, some 2)], [(76, some 1), (78, some 3)], [(79, some 4)]] (by decide +kernel) (
                    rc rfl rfl (op_load rfl kT71 (tp rfl)) <|
                    rc rfl rfl (op_call (l := [.tmp 75]) rfl kN45 (.cons (tp rfl) .nil) (FnN.fn <| laws_toFinder_w p119)) <|
                    rc rfl rfl (op_load rfl kT73 (tp rfl)) <|
                    rc rfl rfl (op_call (l := [.tmp 77]) rfl kN46 (.cons (tp rfl) .nil) (FnN.fn <| laws_toDisk_w p120)) <|
                    rc rfl rfl (op_call (l := [.tmp 76, .tmp 78]) rfl kN16 (.cons (tp rfl) (.cons (tp rfl) .nil)) ((impl_StaleDirs_w p121)).fn) <|
                    rc rfl rfl (oA rfl (tp rfl)) <| .nil) [6, 11, 13] rfl [(9, 2)] rfl ⟨fun _ h => h, trivial⟩ (fun a125 w125 st125 => ?_)
                  refine then_normal ?_
                  refine wp_seq ?_
                  obtain ⟨v126, p126, h127⟩ := bs h124
                  refine st125.sq (
                    sc rfl (oM rfl (tp rfl)) <|
                    sc rfl (oM rfl (tp rfl)) <|
                    sc rfl (op_call (l := [.tmp 80, .tmp 81]) rfl kN14 (.cons (tp rfl) (.cons (tp rfl) .nil)) (laws_eqIntS_w p126)) <|
                    sc rfl (op_not rfl (tp rfl)) <| .nil) [11, 83] rfl [(9, 2)] rfl ⟨fun _ h => h, trivial⟩ (fun a128 w128 st128 => ?_)
                  refine st128.cs (c := 83) rfl h127 (fun c129 h129 => ?_) (fun c130 h130 => ?_)
                  ·
                    refine st128.sq0 (
                      sc rfl (oA rfl cB) <| .nil) [4] rfl (fun a131 w131 st131 => ?_)
                    refine wp_ret (thn_ret ?_)
                    exact st131.ret rfl rfl h129
                  ·
                    refine wp_skip ?_
                    refine then_normal ?_
                    refine st128.sq (
                      sc rfl (oA rfl cI) <| .nil) [11, 12] rfl [(9, 2)] rfl ⟨fun _ h => h, trivial⟩ (fun a132 w132 st132 => ?_)
                    obtain ⟨v133, p133, h134⟩ := bs h130
                    refine st132.sq0 (
                      sc rfl (oM rfl (tp rfl)) <|
                      sc rfl (oM rfl (tp rfl)) <|
                      sc rfl (op_callT (l := [.tmp 84, .tmp 85]) st132.ob.sub rfl kN51 (.cons (lendN st132.ob 2 (fun _ h => h) (tp rfl)) (.cons (opd2_of st132.ob.sub (tp rfl)) .nil)) (laws_heldIntS_w p133) flat_int) <|
                      sc rfl (oA rfl (tp rfl)) <| .nil) [11, 12] rfl (fun a135 w135 st135 => ?_)
                    refine wp_seq ?_
                    refine st135.sq0 (
                      sc rfl (oM rfl (tp rfl)) <|
                      sc rfl (oCI rfl (tp rfl) cI) <| .nil) [11, 12, 88] rfl (fun a136 w136 st136 => ?_)
                    refine st136.cs (c := 88) rfl h134 (fun c137 h137 => ?_) (fun c138 h138 => ?_)
                    ·
                      refine st136.sq0 (
                        sc rfl (oA rfl cB) <| .nil) [4] rfl (fun a139 w139 st139 => ?_)
                      refine wp_ret (thn_ret ?_)
                      exact st139.ret rfl rfl h137
                    ·
                      refine wp_skip ?_
                      refine then_normal ?_
                      refine wp_seq ?_
                      refine st136.sq0 (
                        sc rfl (oM rfl (tp rfl)) <|
                        sc rfl (oM rfl (tp rfl)) <|
                        sc rfl (oCI rfl (tp rfl) (tp rfl)) <| .nil) [91] rfl (fun a140 w140 st140 => ?_)
                      refine st140.cs (c := 91) rfl h138 (fun c141 h141 => ?_) (fun c142 h142 => ?_)
                      ·
                        refine st140.sq0 (
                          sc rfl (oA rfl cB) <| .nil) [4] rfl (fun a143 w143 st143 => ?_)
                        refine wp_ret (thn_ret ?_)
                        exact st143.ret rfl rfl h141
                      ·
                        refine wp_skip ?_
                        refine then_normal ?_
                        refine st140.sq0 (
                          sc rfl (oA rfl cB) <| .nil) [4] rfl (fun a144 w144 st144 => ?_)
                        refine wp_ret ?_
                        exact st144.ret rfl rfl h142

end Go.Proofs.YtionokffhhiicaaGreatDoor
