/-
  Models for what was walked before.
  Models of functions, and their walks: printed by a program of our own (wip/mxo.py).
-/
import Derived.Test.YtbnibckkfknpkaaGreatDoorHD
import Derived.Test.YtbnibckkfknpkaaGreatDoorHF
import Derived.Test.YtbnibckkfknpkaaGreatDoorHG
import Derived.Test.YtbnibckkfknpkaaGreatDoorHC
namespace Go.Proofs.YtbnibckkfknpkaaGreatDoor
open Go.RowKit
instance (s : Str) : Decidable (mid s) := by unfold mid; infer_instance
instance (s : Stmt) : Decidable (smStmt s) := by unfold smStmt; infer_instance
instance (f : File) : Decidable (smFile f) := by unfold smFile; infer_instance
instance (t : Tree) : Decidable (smTree t) := by unfold smTree; infer_instance
def m_spec_FoundNames (t : Tree) (p : List Int) : Option (List Str) := if smTree t ∧ p.length ≤ 1099511627776 then some (foundNames t p) else none
theorem spec_FoundNames_w {t : Tree} {p : List Int} {r : List Str} (h : m_spec_FoundNames t p = some r) : Fn Tryz.prog 92 [dt t, dt p] (dt r) := by
  unfold m_spec_FoundNames at h
  split at h
  · rename_i hc
    injection h with h
    subst h
    exact spec_FoundNames_ok _ _ hc.1 hc.2
  · cases h
def m_spec_validTree (t : Tree) : Option Bool := if smTree t then some (validTree t) else none
theorem spec_validTree_w {t : Tree} {r : Bool} (h : m_spec_validTree t = some r) : Fn Tryz.prog 51 [dt t] (dt r) := by
  unfold m_spec_validTree at h
  split at h
  · rename_i hc
    injection h with h
    subst h
    exact spec_validTree_ok _ hc
  · cases h
def m_spec_validName (s : Str) : Option Bool := if mid s then some (validName s) else none
theorem spec_validName_w {s : Str} {r : Bool} (h : m_spec_validName s = some r) : Fn Tryz.prog 53 [dt s] (dt r) := by
  unfold m_spec_validName at h
  split at h
  · rename_i hc
    injection h with h
    subst h
    exact spec_validName_ok _ hc
  · cases h
def m_spec_insertText (l : List Str) (s : Str) : Option (List Str) := if l.length ≤ 8796093022200 then some (insertT l s) else none
theorem spec_insertText_w {l : List Str} {s : Str} {r : List Str} (h : m_spec_insertText l s = some r) : FnTake Tryz.prog 65 9 l [dt s] r := by
  unfold m_spec_insertText at h
  split at h
  · rename_i hc
    injection h with h
    subst h
    exact spec_insertText_ok _ _ hc
  · cases h
def m_spec_validPath (p : List Int) : Option Bool := if True then some (validPath p) else none
theorem spec_validPath_w {p : List Int} {r : Bool} (h : m_spec_validPath p = some r) : Fn Tryz.prog 52 [dt p] (dt r) := by
  unfold m_spec_validPath at h
  split at h
  · rename_i hc
    injection h with h
    subst h
    exact spec_validPath_ok _
  · cases h
def m_spec_find (t : Tree) (p : List Int) (s : Str) : Option Spec := if p.length ≤ 1099511627776 ∧ mid s then some (find t.files p s) else none
theorem spec_find_w {t : Tree} {p : List Int} {s : Str} {r : Spec} (h : m_spec_find t p s = some r) : Fn Tryz.prog 56 [dt t, dt p, dt s] (dt r) := by
  unfold m_spec_find at h
  split at h
  · rename_i hc
    injection h with h
    subst h
    exact spec_find_ok _ _ _ hc.1 hc.2
  · cases h
def m_spec_parent (s : Str) : Option Str := if mid s then some (parent s) else none
theorem spec_parent_w {s : Str} {r : Str} (h : m_spec_parent s = some r) : Fn Tryz.prog 64 [dt s] (dt r) := by
  unfold m_spec_parent at h
  split at h
  · rename_i hc
    injection h with h
    subst h
    exact spec_parent_ok _ hc
  · cases h
def m_spec_above (s : Str) : Option (List Str) := if mid s then some (above s) else none
theorem spec_above_w {s : Str} {r : List Str} (h : m_spec_above s = some r) : Fn Tryz.prog 55 [dt s] (dt r) := by
  unfold m_spec_above at h
  split at h
  · rename_i hc
    injection h with h
    subst h
    exact spec_above_ok _ hc
  · cases h
def m_spec_child (p : Str) (s : Str) : Option Str := if p.l.length + s.l.length ≤ 1152921504606846976 then some (child p s) else none
theorem spec_child_w {p : Str} {s : Str} {r : Str} (h : m_spec_child p s = some r) : Fn Tryz.prog 139 [dt p, dt s] (dt r) := by
  unfold m_spec_child at h
  split at h
  · rename_i hc
    injection h with h
    subst h
    exact spec_child_ok _ _ hc
  · cases h
end Go.Proofs.YtbnibckkfknpkaaGreatDoor

namespace Go.Proofs.YtbnibckkfknpkaaGreatDoor
open Go.RowKit
set_option maxRecDepth 10000
set_option maxHeartbeats 1600000

theorem kF138_1 : fldB Tryz.prog 138 1 1 = true := by kernel_rfl
theorem kF138_3 : fldB Tryz.prog 138 3 3 = true := by kernel_rfl
theorem kL84 : isSl Tryz.prog 84 = true := by kernel_rfl
theorem kS84 : slB Tryz.prog 84 5 = true := by kernel_rfl
theorem kT138 : tyB Tryz.prog 138 true 5 = true := by kernel_rfl
theorem kN160 : fnB Tryz.prog 160 = true := by kernel_rfl
theorem kF86_1 : fldB Tryz.prog 86 1 1 = true := by kernel_rfl
theorem kF86_2 : fldB Tryz.prog 86 2 2 = true := by kernel_rfl
theorem kF86_5 : fldB Tryz.prog 86 5 5 = true := by kernel_rfl
theorem kT84 : tyB Tryz.prog 84 false 1 = true := by kernel_rfl
theorem kN136 : fnB Tryz.prog 136 = true := by kernel_rfl
theorem kL22 : isSl Tryz.prog 22 = true := by kernel_rfl
theorem kS22 : slB Tryz.prog 22 6 = true := by kernel_rfl
theorem kT86 : tyB Tryz.prog 86 true 6 = true := by kernel_rfl
theorem kN96 : fnB Tryz.prog 96 = true := by kernel_rfl
theorem kF24_0 : fldB Tryz.prog 24 0 0 = true := by kernel_rfl
theorem kT22 : tyB Tryz.prog 22 false 1 = true := by kernel_rfl
theorem kN50 : fnB Tryz.prog 50 = true := by kernel_rfl
theorem kN166 : fnB Tryz.prog 166 = true := by kernel_rfl
theorem kN144 : fnB Tryz.prog 144 = true := by kernel_rfl
theorem kN109 : fnB Tryz.prog 109 = true := by kernel_rfl
theorem kN61 : fnB Tryz.prog 61 = true := by kernel_rfl
theorem kF138_0 : fldB Tryz.prog 138 0 0 = true := by kernel_rfl
theorem kF138_2 : fldB Tryz.prog 138 2 2 = true := by kernel_rfl
theorem kF138_4 : fldB Tryz.prog 138 4 4 = true := by kernel_rfl
theorem kE59 : elB Tryz.prog 59 64 5 56 = true := by kernel_rfl
theorem kN163 : fnB Tryz.prog 163 = true := by kernel_rfl
theorem kZ3 : zeroCells Tryz.prog 3 = some zcInt := by kernel_rfl
theorem kF86_0 : fldB Tryz.prog 86 0 0 = true := by kernel_rfl
theorem kF86_3 : fldB Tryz.prog 86 3 3 = true := by kernel_rfl
theorem kF86_4 : fldB Tryz.prog 86 4 4 = true := by kernel_rfl
theorem kN142 : fnB Tryz.prog 142 = true := by kernel_rfl
theorem kE28 : elB Tryz.prog 28 61 6 80 = true := by kernel_rfl
theorem kN106 : fnB Tryz.prog 106 = true := by kernel_rfl
theorem kZ30 : zeroCells Tryz.prog 30 = some zcTree := by kernel_rfl
theorem kN58 : fnB Tryz.prog 58 = true := by kernel_rfl
theorem kCv3_5 : cvB Tryz.prog 3 5 = true := by kernel_rfl
theorem kS42 : slB Tryz.prog 42 1 = true := by kernel_rfl
theorem kY42 : zlB Tryz.prog 42 = true := by kernel_rfl
theorem kCv42_9 : cvS Tryz.prog 42 9 = true := by kernel_rfl
theorem kN72 : fnB Tryz.prog 72 = true := by kernel_rfl
theorem kN114 : fnB Tryz.prog 114 = true := by kernel_rfl
theorem kN71 : fnB Tryz.prog 71 = true := by kernel_rfl

def m_laws_szStmt (x0 : Stmt) (x1 : Int) : Option Int :=
(i64 (x1 - (x0.module.l.length : Int))).bind fun v2 =>
if (cmpI .lss v2 (0 : Int)) = true then (some (-1 : Int))
else ((i64 (v2 - (x0.name.l.length : Int))).bind fun v9 =>
if (cmpI .lss v9 (0 : Int)) = true then (some (-1 : Int))
else (some v9))

theorem laws_szStmt_w {x0 : Stmt} {x1 : Int} {r : Int} (h : m_laws_szStmt x0 x1 = some r) : Fn Tryz.prog 160 [dt x0, dt x1] (dt r) := by
  unfold m_laws_szStmt at h
  refine fnx (fn := Tryz.f160) 0 Tryz.func160 rfl (of_decide_eq_true rfl) rfl (fun M w0 a0 st0 => ?_)
  refine st0.sq0 (
    sc rfl (op_box rfl (tp rfl)) <|
    sc rfl (oA rfl cI) <| .nil) [1, 2] rfl (fun a1 w1 st1 => ?_)
  obtain ⟨v2, p2, h3⟩ := bs h
  refine st1.sq0 (
    sc rfl (oM rfl (tp rfl)) <|
    sc rfl (op_field Stmt.fld1 rfl kF138_1 (tp rfl)) <|
    sc rfl (op_load rfl kT9 (tp rfl)) <|
    sc rfl (op_lenS rfl kX9 (tp rfl)) <|
    sc rfl (xAr rfl (tp rfl) (tp rfl) p2) <|
    sc rfl (oA rfl (tp rfl)) <| .nil) [1, 2] rfl (fun a4 w4 st4 => ?_)
  refine wp_seq ?_
  refine st4.sq0 (
    sc rfl (oM rfl (tp rfl)) <|
    sc rfl (oCI rfl (tp rfl) cI) <| .nil) [1, 2, 11] rfl (fun a5 w5 st5 => ?_)
  refine st5.cs (c := 11) rfl h3 (fun c6 h6 => ?_) (fun c7 h7 => ?_)
  ·
    refine st5.sq0 (
      sc rfl (oA rfl cI) <| .nil) [4] rfl (fun a8 w8 st8 => ?_)
    refine wp_ret (thn_ret ?_)
    exact st8.ret rfl rfl h6
  ·
    refine wp_skip ?_
    refine then_normal ?_
    obtain ⟨v9, p9, h10⟩ := bs h7
    refine st5.sq0 (
      sc rfl (oM rfl (tp rfl)) <|
      sc rfl (op_field Stmt.fld3 rfl kF138_3 (tp rfl)) <|
      sc rfl (op_load rfl kT9 (tp rfl)) <|
      sc rfl (op_lenS rfl kX9 (tp rfl)) <|
      sc rfl (xAr rfl (tp rfl) (tp rfl) p9) <|
      sc rfl (oA rfl (tp rfl)) <| .nil) [1] rfl (fun a11 w11 st11 => ?_)
    refine wp_seq ?_
    refine st11.sq0 (
      sc rfl (oM rfl (tp rfl)) <|
      sc rfl (oCI rfl (tp rfl) cI) <| .nil) [1, 18] rfl (fun a12 w12 st12 => ?_)
    refine st12.cs (c := 18) rfl h10 (fun c13 h13 => ?_) (fun c14 h14 => ?_)
    ·
      refine st12.sq0 (
        sc rfl (oA rfl cI) <| .nil) [4] rfl (fun a15 w15 st15 => ?_)
      refine wp_ret (thn_ret ?_)
      exact st15.ret rfl rfl h13
    ·
      refine wp_skip ?_
      refine then_normal ?_
      refine st12.sq0 (
        sc rfl (oM rfl (tp rfl)) <|
        sc rfl (oA rfl (tp rfl)) <| .nil) [4] rfl (fun a16 w16 st16 => ?_)
      refine wp_ret ?_
      exact st16.ret rfl rfl h14

def m_laws_szStmtS_s0 (x0 : List Stmt) (s11 : Int × Int) : Option ((Int × Int) ⊕ (Int ⊕ Int)) :=
if (cmpI .lss s11.2 (x0.length : Int)) = true then ((atI x0 s11.2).bind fun v16 =>
(m_laws_szStmt v16 s11.1).bind fun v17 =>
if (cmpI .lss v17 (0 : Int)) = true then (some (.inr (.inr (-1 : Int))))
else ((i64 (s11.2 + (1 : Int))).bind fun v27 =>
some (.inl (v17, v27))))
else (some (.inr (.inl s11.1)))

def m_laws_szStmtS (x0 : List Stmt) (x1 : Int) : Option Int :=
(i64 (x1 - (x0.length : Int))).bind fun v2 =>
if (cmpI .lss v2 (0 : Int)) = true then (some (-1 : Int))
else (Option.bind (α := Int ⊕ Int) (loopM (fun s11 => m_laws_szStmtS_s0 x0 s11) (v2, (0 : Int))) (Sum.elim (fun b9 =>
some b9) some))

theorem laws_szStmtS_w {x0 : List Stmt} {x1 : Int} {r : Int} (h : m_laws_szStmtS x0 x1 = some r) : Fn Tryz.prog 136 [dt x0, dt x1] (dt r) := by
  unfold m_laws_szStmtS at h
  refine fnx (fn := Tryz.f136) 0 Tryz.func136 rfl (of_decide_eq_true rfl) rfl (fun M w0 a0 st0 => ?_)
  refine st0.sq0 (
    sc rfl (oA rfl cI) <| .nil) [0, 1] rfl (fun a1 w1 st1 => ?_)
  obtain ⟨v2, p2, h3⟩ := bs h
  refine st1.sq0 (
    sc rfl (oM rfl (tp rfl)) <|
    sc rfl (oM rfl (tp rfl)) <|
    sc rfl (op_lenL rfl kL84 (tp rfl)) <|
    sc rfl (xAr rfl (tp rfl) (tp rfl) p2) <|
    sc rfl (oA rfl (tp rfl)) <| .nil) [0, 1] rfl (fun a4 w4 st4 => ?_)
  refine wp_seq ?_
  refine st4.sq0 (
    sc rfl (oM rfl (tp rfl)) <|
    sc rfl (oCI rfl (tp rfl) cI) <| .nil) [0, 1, 11] rfl (fun a5 w5 st5 => ?_)
  refine st5.cs (c := 11) rfl h3 (fun c6 h6 => ?_) (fun c7 h7 => ?_)
  ·
    refine st5.sq0 (
      sc rfl (oA rfl cI) <| .nil) [4] rfl (fun a8 w8 st8 => ?_)
    refine wp_ret (thn_ret ?_)
    exact st8.ret rfl rfl h6
  ·
    refine wp_skip ?_
    refine then_normal ?_
    obtain ⟨o9, p9, k9⟩ := bs h7
    refine wp_seq_join (fun a w => ∃ b9, o9 = .inl b9 ∧ Sx (Frm.of w0) 27 M M [] [(1, dt b9)] [] a w) ?_ ?_
    ·
      refine st5.sq0 (
        sc rfl (oA rfl cI) <| .nil) [0, 1, 5] rfl (fun a10 w10 st10 => ?_)
      refine wp_block ?_
      refine loop_model p9 (fun s11 a w => Sx (Frm.of w0) 27 M M [] [(0, dt x0), (1, dt s11.1), (5, dt s11.2)] [] a w) (st10.sel0 [0, 1, 5] rfl) ?_
      rintro s11 x11 a11 w11 st11 hs11 hx11
      have h12 : m_laws_szStmtS_s0 x0 s11 = some x11 := hs11
      unfold m_laws_szStmtS_s0 at h12
      refine wp_seq ?_
      refine st11.sq0 (
          sc rfl (oM rfl (tp rfl)) <|
          sc rfl (oM rfl (tp rfl)) <|
          sc rfl (op_lenL rfl kL84 (tp rfl)) <|
          sc rfl (oCI rfl (tp rfl) (tp rfl)) <| .nil) [0, 1, 5, 15] rfl (fun a13 w13 st13 => ?_)
      refine st13.cs (c := 15) rfl h12 (fun c14 h14 => ?_) (fun c15 h15 => ?_)
      ·
        refine wp_skip ?_
        refine then_normal ?_
        refine wp_seq ?_
        refine wp_block ?_
        obtain ⟨v16, p16, h18⟩ := bs h14
        obtain ⟨v17, p17, h19⟩ := bs h18
        refine st13.sq0 (
            sc rfl (oM rfl (tp rfl)) <|
            sc rfl (oM rfl (tp rfl)) <|
            sc rfl (xIdx rfl kS84 (tp rfl) (tp rfl) p16) <|
            sc rfl (op_load rfl kT138 (tp rfl)) <|
            sc rfl (oM rfl (tp rfl)) <|
            sc rfl (op_call (l := [.tmp 21, .tmp 22]) rfl kN160 (.cons (tp rfl) (.cons (tp rfl) .nil)) (laws_szStmt_w p17)) <|
            sc rfl (oA rfl (tp rfl)) <| .nil) [0, 1, 5] rfl (fun a20 w20 st20 => ?_)
        refine st20.sq0 (
            sc rfl (oM rfl (tp rfl)) <|
            sc rfl (oCI rfl (tp rfl) cI) <| .nil) [0, 1, 5, 25] rfl (fun a21 w21 st21 => ?_)
        refine st21.cs (c := 25) rfl h19 (fun c22 h22 => ?_) (fun c23 h23 => ?_)
        ·
          refine st21.sq0 (
              sc rfl (oA rfl cI) <| .nil) [4] rfl (fun a24 w24 st24 => ?_)
          refine wp_ret (blk_ret (thn_ret (thn_ret (blk_ret (thn_ret ?_)))))
          have h25 := lo h22 hx11
          have h26 := jo h25 k9
          exact st24.ret rfl rfl h26
        ·
          refine wp_skip ?_
          refine blk_normal ?_
          refine then_normal ?_
          obtain ⟨v27, p27, h28⟩ := bs h23
          refine st21.rg0 (
              sc rfl (oM rfl (tp rfl)) <|
              sc rfl (xAr rfl (tp rfl) cI p27) <|
              sc rfl (oA rfl (tp rfl)) <| .nil) [0, 1, 5] rfl (fun a29 w29 st29 => ?_)
          refine then_normal ?_
          exact ⟨_, (Option.some.inj h28).symm, st29.sel0 [0, 1, 5] rfl⟩
      ·
        refine wp_exit (thn_exit (thn_exit (exit_here ?_)))
        refine then_normal ?_
        have h30 := lo h15 hx11
        exact ⟨_, (Option.some.inj h30).symm, st13.sel0 [1] rfl⟩
    · rintro a9 w9 ⟨b9, rfl, st9⟩
      have h31 := jn k9
      refine st9.sq0 (
        sc rfl (oM rfl (tp rfl)) <|
        sc rfl (oA rfl (tp rfl)) <| .nil) [4] rfl (fun a32 w32 st32 => ?_)
      refine wp_ret ?_
      exact st32.ret rfl rfl h31

def m_laws_szFile (x0 : File) (x1 : Int) : Option Int :=
(i64 (x1 - (x0.pkg.l.length : Int))).bind fun v2 =>
if (cmpI .lss v2 (0 : Int)) = true then (some (-1 : Int))
else ((i64 (v2 - (x0.name.l.length : Int))).bind fun v9 =>
if (cmpI .lss v9 (0 : Int)) = true then (some (-1 : Int))
else ((m_laws_szStmtS x0.body v9).bind fun v16 =>
if (cmpI .lss v16 (0 : Int)) = true then (some (-1 : Int))
else (some v16)))

theorem laws_szFile_w {x0 : File} {x1 : Int} {r : Int} (h : m_laws_szFile x0 x1 = some r) : Fn Tryz.prog 96 [dt x0, dt x1] (dt r) := by
  unfold m_laws_szFile at h
  refine fnx (fn := Tryz.f96) 0 Tryz.func96 rfl (of_decide_eq_true rfl) rfl (fun M w0 a0 st0 => ?_)
  refine st0.sq0 (
    sc rfl (op_box rfl (tp rfl)) <|
    sc rfl (oA rfl cI) <| .nil) [1, 2] rfl (fun a1 w1 st1 => ?_)
  obtain ⟨v2, p2, h3⟩ := bs h
  refine st1.sq0 (
    sc rfl (oM rfl (tp rfl)) <|
    sc rfl (op_field File.fld1 rfl kF86_1 (tp rfl)) <|
    sc rfl (op_load rfl kT9 (tp rfl)) <|
    sc rfl (op_lenS rfl kX9 (tp rfl)) <|
    sc rfl (xAr rfl (tp rfl) (tp rfl) p2) <|
    sc rfl (oA rfl (tp rfl)) <| .nil) [1, 2] rfl (fun a4 w4 st4 => ?_)
  refine wp_seq ?_
  refine st4.sq0 (
    sc rfl (oM rfl (tp rfl)) <|
    sc rfl (oCI rfl (tp rfl) cI) <| .nil) [1, 2, 11] rfl (fun a5 w5 st5 => ?_)
  refine st5.cs (c := 11) rfl h3 (fun c6 h6 => ?_) (fun c7 h7 => ?_)
  ·
    refine st5.sq0 (
      sc rfl (oA rfl cI) <| .nil) [4] rfl (fun a8 w8 st8 => ?_)
    refine wp_ret (thn_ret ?_)
    exact st8.ret rfl rfl h6
  ·
    refine wp_skip ?_
    refine then_normal ?_
    obtain ⟨v9, p9, h10⟩ := bs h7
    refine st5.sq0 (
      sc rfl (oM rfl (tp rfl)) <|
      sc rfl (op_field File.fld2 rfl kF86_2 (tp rfl)) <|
      sc rfl (op_load rfl kT9 (tp rfl)) <|
      sc rfl (op_lenS rfl kX9 (tp rfl)) <|
      sc rfl (xAr rfl (tp rfl) (tp rfl) p9) <|
      sc rfl (oA rfl (tp rfl)) <| .nil) [1, 2] rfl (fun a11 w11 st11 => ?_)
    refine wp_seq ?_
    refine st11.sq0 (
      sc rfl (oM rfl (tp rfl)) <|
      sc rfl (oCI rfl (tp rfl) cI) <| .nil) [1, 2, 18] rfl (fun a12 w12 st12 => ?_)
    refine st12.cs (c := 18) rfl h10 (fun c13 h13 => ?_) (fun c14 h14 => ?_)
    ·
      refine st12.sq0 (
        sc rfl (oA rfl cI) <| .nil) [4] rfl (fun a15 w15 st15 => ?_)
      refine wp_ret (thn_ret ?_)
      exact st15.ret rfl rfl h13
    ·
      refine wp_skip ?_
      refine then_normal ?_
      obtain ⟨v16, p16, h17⟩ := bs h14
      refine st12.sq0 (
        sc rfl (op_field File.fld5 rfl kF86_5 (tp rfl)) <|
        sc rfl (op_load rfl kT84 (tp rfl)) <|
        sc rfl (oM rfl (tp rfl)) <|
        sc rfl (op_call (l := [.tmp 20, .tmp 21]) rfl kN136 (.cons (tp rfl) (.cons (tp rfl) .nil)) (laws_szStmtS_w p16)) <|
        sc rfl (oA rfl (tp rfl)) <| .nil) [1] rfl (fun a18 w18 st18 => ?_)
      refine wp_seq ?_
      refine st18.sq0 (
        sc rfl (oM rfl (tp rfl)) <|
        sc rfl (oCI rfl (tp rfl) cI) <| .nil) [1, 24] rfl (fun a19 w19 st19 => ?_)
      refine st19.cs (c := 24) rfl h17 (fun c20 h20 => ?_) (fun c21 h21 => ?_)
      ·
        refine st19.sq0 (
          sc rfl (oA rfl cI) <| .nil) [4] rfl (fun a22 w22 st22 => ?_)
        refine wp_ret (thn_ret ?_)
        exact st22.ret rfl rfl h20
      ·
        refine wp_skip ?_
        refine then_normal ?_
        refine st19.sq0 (
          sc rfl (oM rfl (tp rfl)) <|
          sc rfl (oA rfl (tp rfl)) <| .nil) [4] rfl (fun a23 w23 st23 => ?_)
        refine wp_ret ?_
        exact st23.ret rfl rfl h21

def m_laws_szFileS_s0 (x0 : List File) (s11 : Int × Int) : Option ((Int × Int) ⊕ (Int ⊕ Int)) :=
if (cmpI .lss s11.2 (x0.length : Int)) = true then ((atI x0 s11.2).bind fun v16 =>
(m_laws_szFile v16 s11.1).bind fun v17 =>
if (cmpI .lss v17 (0 : Int)) = true then (some (.inr (.inr (-1 : Int))))
else ((i64 (s11.2 + (1 : Int))).bind fun v27 =>
some (.inl (v17, v27))))
else (some (.inr (.inl s11.1)))

def m_laws_szFileS (x0 : List File) (x1 : Int) : Option Int :=
(i64 (x1 - (x0.length : Int))).bind fun v2 =>
if (cmpI .lss v2 (0 : Int)) = true then (some (-1 : Int))
else (Option.bind (α := Int ⊕ Int) (loopM (fun s11 => m_laws_szFileS_s0 x0 s11) (v2, (0 : Int))) (Sum.elim (fun b9 =>
some b9) some))

theorem laws_szFileS_w {x0 : List File} {x1 : Int} {r : Int} (h : m_laws_szFileS x0 x1 = some r) : Fn Tryz.prog 50 [dt x0, dt x1] (dt r) := by
  unfold m_laws_szFileS at h
  refine fnx (fn := Tryz.f50) 0 Tryz.func50 rfl (of_decide_eq_true rfl) rfl (fun M w0 a0 st0 => ?_)
  refine st0.sq0 (
    sc rfl (oA rfl cI) <| .nil) [0, 1] rfl (fun a1 w1 st1 => ?_)
  obtain ⟨v2, p2, h3⟩ := bs h
  refine st1.sq0 (
    sc rfl (oM rfl (tp rfl)) <|
    sc rfl (oM rfl (tp rfl)) <|
    sc rfl (op_lenL rfl kL22 (tp rfl)) <|
    sc rfl (xAr rfl (tp rfl) (tp rfl) p2) <|
    sc rfl (oA rfl (tp rfl)) <| .nil) [0, 1] rfl (fun a4 w4 st4 => ?_)
  refine wp_seq ?_
  refine st4.sq0 (
    sc rfl (oM rfl (tp rfl)) <|
    sc rfl (oCI rfl (tp rfl) cI) <| .nil) [0, 1, 11] rfl (fun a5 w5 st5 => ?_)
  refine st5.cs (c := 11) rfl h3 (fun c6 h6 => ?_) (fun c7 h7 => ?_)
  ·
    refine st5.sq0 (
      sc rfl (oA rfl cI) <| .nil) [4] rfl (fun a8 w8 st8 => ?_)
    refine wp_ret (thn_ret ?_)
    exact st8.ret rfl rfl h6
  ·
    refine wp_skip ?_
    refine then_normal ?_
    obtain ⟨o9, p9, k9⟩ := bs h7
    refine wp_seq_join (fun a w => ∃ b9, o9 = .inl b9 ∧ Sx (Frm.of w0) 27 M M [] [(1, dt b9)] [] a w) ?_ ?_
    ·
      refine st5.sq0 (
        sc rfl (oA rfl cI) <| .nil) [0, 1, 5] rfl (fun a10 w10 st10 => ?_)
      refine wp_block ?_
      refine loop_model p9 (fun s11 a w => Sx (Frm.of w0) 27 M M [] [(0, dt x0), (1, dt s11.1), (5, dt s11.2)] [] a w) (st10.sel0 [0, 1, 5] rfl) ?_
      rintro s11 x11 a11 w11 st11 hs11 hx11
      have h12 : m_laws_szFileS_s0 x0 s11 = some x11 := hs11
      unfold m_laws_szFileS_s0 at h12
      refine wp_seq ?_
      refine st11.sq0 (
          sc rfl (oM rfl (tp rfl)) <|
          sc rfl (oM rfl (tp rfl)) <|
          sc rfl (op_lenL rfl kL22 (tp rfl)) <|
          sc rfl (oCI rfl (tp rfl) (tp rfl)) <| .nil) [0, 1, 5, 15] rfl (fun a13 w13 st13 => ?_)
      refine st13.cs (c := 15) rfl h12 (fun c14 h14 => ?_) (fun c15 h15 => ?_)
      ·
        refine wp_skip ?_
        refine then_normal ?_
        refine wp_seq ?_
        refine wp_block ?_
        obtain ⟨v16, p16, h18⟩ := bs h14
        obtain ⟨v17, p17, h19⟩ := bs h18
        refine st13.sq0 (
            sc rfl (oM rfl (tp rfl)) <|
            sc rfl (oM rfl (tp rfl)) <|
            sc rfl (xIdx rfl kS22 (tp rfl) (tp rfl) p16) <|
            sc rfl (op_load rfl kT86 (tp rfl)) <|
            sc rfl (oM rfl (tp rfl)) <|
            sc rfl (op_call (l := [.tmp 21, .tmp 22]) rfl kN96 (.cons (tp rfl) (.cons (tp rfl) .nil)) (laws_szFile_w p17)) <|
            sc rfl (oA rfl (tp rfl)) <| .nil) [0, 1, 5] rfl (fun a20 w20 st20 => ?_)
        refine st20.sq0 (
            sc rfl (oM rfl (tp rfl)) <|
            sc rfl (oCI rfl (tp rfl) cI) <| .nil) [0, 1, 5, 25] rfl (fun a21 w21 st21 => ?_)
        refine st21.cs (c := 25) rfl h19 (fun c22 h22 => ?_) (fun c23 h23 => ?_)
        ·
          refine st21.sq0 (
              sc rfl (oA rfl cI) <| .nil) [4] rfl (fun a24 w24 st24 => ?_)
          refine wp_ret (blk_ret (thn_ret (thn_ret (blk_ret (thn_ret ?_)))))
          have h25 := lo h22 hx11
          have h26 := jo h25 k9
          exact st24.ret rfl rfl h26
        ·
          refine wp_skip ?_
          refine blk_normal ?_
          refine then_normal ?_
          obtain ⟨v27, p27, h28⟩ := bs h23
          refine st21.rg0 (
              sc rfl (oM rfl (tp rfl)) <|
              sc rfl (xAr rfl (tp rfl) cI p27) <|
              sc rfl (oA rfl (tp rfl)) <| .nil) [0, 1, 5] rfl (fun a29 w29 st29 => ?_)
          refine then_normal ?_
          exact ⟨_, (Option.some.inj h28).symm, st29.sel0 [0, 1, 5] rfl⟩
      ·
        refine wp_exit (thn_exit (thn_exit (exit_here ?_)))
        refine then_normal ?_
        have h30 := lo h15 hx11
        exact ⟨_, (Option.some.inj h30).symm, st13.sel0 [1] rfl⟩
    · rintro a9 w9 ⟨b9, rfl, st9⟩
      have h31 := jn k9
      refine st9.sq0 (
        sc rfl (oM rfl (tp rfl)) <|
        sc rfl (oA rfl (tp rfl)) <| .nil) [4] rfl (fun a32 w32 st32 => ?_)
      refine wp_ret ?_
      exact st32.ret rfl rfl h31

def m_laws_szTree (x0 : Tree) (x1 : Int) : Option Int :=
(m_laws_szFileS x0.files x1).bind fun v2 =>
if (cmpI .lss v2 (0 : Int)) = true then (some (-1 : Int))
else (some v2)

theorem laws_szTree_w {x0 : Tree} {x1 : Int} {r : Int} (h : m_laws_szTree x0 x1 = some r) : Fn Tryz.prog 13 [dt x0, dt x1] (dt r) := by
  unfold m_laws_szTree at h
  refine fnx (fn := Tryz.f13) 0 Tryz.func13 rfl (of_decide_eq_true rfl) rfl (fun M w0 a0 st0 => ?_)
  refine st0.sq0 (
    sc rfl (op_box rfl (tp rfl)) <|
    sc rfl (oA rfl cI) <| .nil) [1, 2] rfl (fun a1 w1 st1 => ?_)
  obtain ⟨v2, p2, h3⟩ := bs h
  refine st1.sq0 (
    sc rfl (op_field Tree.fld0 rfl kF24_0 (tp rfl)) <|
    sc rfl (op_load rfl kT22 (tp rfl)) <|
    sc rfl (oM rfl (tp rfl)) <|
    sc rfl (op_call (l := [.tmp 6, .tmp 7]) rfl kN50 (.cons (tp rfl) (.cons (tp rfl) .nil)) (laws_szFileS_w p2)) <|
    sc rfl (oA rfl (tp rfl)) <| .nil) [1] rfl (fun a4 w4 st4 => ?_)
  refine wp_seq ?_
  refine st4.sq0 (
    sc rfl (oM rfl (tp rfl)) <|
    sc rfl (oCI rfl (tp rfl) cI) <| .nil) [1, 10] rfl (fun a5 w5 st5 => ?_)
  refine st5.cs (c := 10) rfl h3 (fun c6 h6 => ?_) (fun c7 h7 => ?_)
  ·
    refine st5.sq0 (
      sc rfl (oA rfl cI) <| .nil) [4] rfl (fun a8 w8 st8 => ?_)
    refine wp_ret (thn_ret ?_)
    exact st8.ret rfl rfl h6
  ·
    refine wp_skip ?_
    refine then_normal ?_
    refine st5.sq0 (
      sc rfl (oM rfl (tp rfl)) <|
      sc rfl (oA rfl (tp rfl)) <| .nil) [4] rfl (fun a9 w9 st9 => ?_)
    refine wp_ret ?_
    exact st9.ret rfl rfl h7

def m_laws_eqStmt (x0 : Stmt) (x1 : Stmt) : Option Bool :=
if (cmpI .neq x0.kind x1.kind) = true then (some false)
else (if (decide (x0.module ≠ x1.module)) = true then (some false)
else (if (cmpI .neq x0.level x1.level) = true then (some false)
else (if (decide (x0.name ≠ x1.name)) = true then (some false)
else (if (cmpI .neq x0.value x1.value) = true then (some false)
else (some true)))))

theorem laws_eqStmt_w {x0 : Stmt} {x1 : Stmt} {r : Bool} (h : m_laws_eqStmt x0 x1 = some r) : Fn Tryz.prog 166 [dt x0, dt x1] (dt r) := by
  unfold m_laws_eqStmt at h
  refine fnx (fn := Tryz.f166) 0 Tryz.func166 rfl (of_decide_eq_true rfl) rfl (fun M w0 a0 st0 => ?_)
  refine st0.sq0 (
    sc rfl (op_box rfl (tp rfl)) <|
    sc rfl (op_box rfl (tp rfl)) <|
    sc rfl (oA rfl cB) <| .nil) [2, 3] rfl (fun a1 w1 st1 => ?_)
  refine wp_seq ?_
  refine st1.sq0 (
    sc rfl (op_field Stmt.fld0 rfl kF64_0 (tp rfl)) <|
    sc rfl (op_load rfl kT3 (tp rfl)) <|
    sc rfl (op_field Stmt.fld0 rfl kF64_0 (tp rfl)) <|
    sc rfl (op_load rfl kT3 (tp rfl)) <|
    sc rfl (oCI rfl (tp rfl) (tp rfl)) <| .nil) [2, 3, 9] rfl (fun a2 w2 st2 => ?_)
  refine st2.cs (c := 9) rfl h (fun c3 h3 => ?_) (fun c4 h4 => ?_)
  ·
    refine st2.sq0 (
      sc rfl (oA rfl cB) <| .nil) [4] rfl (fun a5 w5 st5 => ?_)
    refine wp_ret (thn_ret ?_)
    exact st5.ret rfl rfl h3
  ·
    refine wp_skip ?_
    refine then_normal ?_
    refine wp_seq ?_
    refine st2.sq0 (
      sc rfl (op_field Stmt.fld1 rfl kF64_1 (tp rfl)) <|
      sc rfl (op_load rfl kT9 (tp rfl)) <|
      sc rfl (op_field Stmt.fld1 rfl kF64_1 (tp rfl)) <|
      sc rfl (op_load rfl kT9 (tp rfl)) <|
      sc rfl (op_neS rfl (tp rfl) (tp rfl)) <| .nil) [2, 3, 14] rfl (fun a6 w6 st6 => ?_)
    refine st6.cs (c := 14) rfl h4 (fun c7 h7 => ?_) (fun c8 h8 => ?_)
    ·
      refine st6.sq0 (
        sc rfl (oA rfl cB) <| .nil) [4] rfl (fun a9 w9 st9 => ?_)
      refine wp_ret (thn_ret ?_)
      exact st9.ret rfl rfl h7
    ·
      refine wp_skip ?_
      refine then_normal ?_
      refine wp_seq ?_
      refine st6.sq0 (
        sc rfl (op_field Stmt.fld2 rfl kF64_2 (tp rfl)) <|
        sc rfl (op_load rfl kT3 (tp rfl)) <|
        sc rfl (op_field Stmt.fld2 rfl kF64_2 (tp rfl)) <|
        sc rfl (op_load rfl kT3 (tp rfl)) <|
        sc rfl (oCI rfl (tp rfl) (tp rfl)) <| .nil) [2, 3, 19] rfl (fun a10 w10 st10 => ?_)
      refine st10.cs (c := 19) rfl h8 (fun c11 h11 => ?_) (fun c12 h12 => ?_)
      ·
        refine st10.sq0 (
          sc rfl (oA rfl cB) <| .nil) [4] rfl (fun a13 w13 st13 => ?_)
        refine wp_ret (thn_ret ?_)
        exact st13.ret rfl rfl h11
      ·
        refine wp_skip ?_
        refine then_normal ?_
        refine wp_seq ?_
        refine st10.sq0 (
          sc rfl (op_field Stmt.fld3 rfl kF64_3 (tp rfl)) <|
          sc rfl (op_load rfl kT9 (tp rfl)) <|
          sc rfl (op_field Stmt.fld3 rfl kF64_3 (tp rfl)) <|
          sc rfl (op_load rfl kT9 (tp rfl)) <|
          sc rfl (op_neS rfl (tp rfl) (tp rfl)) <| .nil) [2, 3, 24] rfl (fun a14 w14 st14 => ?_)
        refine st14.cs (c := 24) rfl h12 (fun c15 h15 => ?_) (fun c16 h16 => ?_)
        ·
          refine st14.sq0 (
            sc rfl (oA rfl cB) <| .nil) [4] rfl (fun a17 w17 st17 => ?_)
          refine wp_ret (thn_ret ?_)
          exact st17.ret rfl rfl h15
        ·
          refine wp_skip ?_
          refine then_normal ?_
          refine wp_seq ?_
          refine st14.sq0 (
            sc rfl (op_field Stmt.fld4 rfl kF64_4 (tp rfl)) <|
            sc rfl (op_load rfl kT3 (tp rfl)) <|
            sc rfl (op_field Stmt.fld4 rfl kF64_4 (tp rfl)) <|
            sc rfl (op_load rfl kT3 (tp rfl)) <|
            sc rfl (oCI rfl (tp rfl) (tp rfl)) <| .nil) [29] rfl (fun a18 w18 st18 => ?_)
          refine st18.cs (c := 29) rfl h16 (fun c19 h19 => ?_) (fun c20 h20 => ?_)
          ·
            refine st18.sq0 (
              sc rfl (oA rfl cB) <| .nil) [4] rfl (fun a21 w21 st21 => ?_)
            refine wp_ret (thn_ret ?_)
            exact st21.ret rfl rfl h19
          ·
            refine wp_skip ?_
            refine then_normal ?_
            refine st18.sq0 (
              sc rfl (oA rfl cB) <| .nil) [4] rfl (fun a22 w22 st22 => ?_)
            refine wp_ret ?_
            exact st22.ret rfl rfl h20

def m_laws_eqStmtS_s0 (x0 : List Stmt) (x1 : List Stmt) (s8 : Int) : Option (Int ⊕ (Unit ⊕ Bool)) :=
if (cmpI .lss s8 (x0.length : Int)) = true then ((atI x0 s8).bind fun v13 =>
(atI x1 s8).bind fun v14 =>
(m_laws_eqStmt v13 v14).bind fun v15 =>
if (!v15) = true then (some (.inr (.inr false)))
else ((i64 (s8 + (1 : Int))).bind fun v25 =>
some (.inl v25)))
else (some (.inr (.inl ())))

def m_laws_eqStmtS (x0 : List Stmt) (x1 : List Stmt) : Option Bool :=
if (cmpI .neq (x0.length : Int) (x1.length : Int)) = true then (some false)
else (Option.bind (α := Unit ⊕ Bool) (loopM (fun s8 => m_laws_eqStmtS_s0 x0 x1 s8) (0 : Int)) (Sum.elim (fun _b6 =>
some true) some))

theorem laws_eqStmtS_w {x0 : List Stmt} {x1 : List Stmt} {r : Bool} (h : m_laws_eqStmtS x0 x1 = some r) : Fn Tryz.prog 144 [dt x0, dt x1] (dt r) := by
  unfold m_laws_eqStmtS at h
  refine fnx (fn := Tryz.f144) 0 Tryz.func144 rfl (of_decide_eq_true rfl) rfl (fun M w0 a0 st0 => ?_)
  refine st0.sq0 (
    sc rfl (oA rfl cB) <| .nil) [0, 1] rfl (fun a1 w1 st1 => ?_)
  refine wp_seq ?_
  refine st1.sq0 (
    sc rfl (oM rfl (tp rfl)) <|
    sc rfl (op_lenL rfl kL59 (tp rfl)) <|
    sc rfl (oM rfl (tp rfl)) <|
    sc rfl (op_lenL rfl kL59 (tp rfl)) <|
    sc rfl (oCI rfl (tp rfl) (tp rfl)) <| .nil) [0, 1, 10] rfl (fun a2 w2 st2 => ?_)
  refine st2.cs (c := 10) rfl h (fun c3 h3 => ?_) (fun c4 h4 => ?_)
  ·
    refine st2.sq0 (
      sc rfl (oA rfl cB) <| .nil) [4] rfl (fun a5 w5 st5 => ?_)
    refine wp_ret (thn_ret ?_)
    exact st5.ret rfl rfl h3
  ·
    refine wp_skip ?_
    refine then_normal ?_
    obtain ⟨o6, p6, k6⟩ := bs h4
    refine wp_seq_join (fun a w => ∃ b6, o6 = .inl b6 ∧ Sx (Frm.of w0) 27 M M [] [] [] a w) ?_ ?_
    ·
      refine st2.sq0 (
        sc rfl (oA rfl cI) <| .nil) [0, 1, 5] rfl (fun a7 w7 st7 => ?_)
      refine wp_block ?_
      refine loop_model p6 (fun s8 a w => Sx (Frm.of w0) 27 M M [] [(0, dt x0), (1, dt x1), (5, dt s8)] [] a w) (st7.sel0 [0, 1, 5] rfl) ?_
      rintro s8 x8 a8 w8 st8 hs8 hx8
      have h9 : m_laws_eqStmtS_s0 x0 x1 s8 = some x8 := hs8
      unfold m_laws_eqStmtS_s0 at h9
      refine wp_seq ?_
      refine st8.sq0 (
          sc rfl (oM rfl (tp rfl)) <|
          sc rfl (oM rfl (tp rfl)) <|
          sc rfl (op_lenL rfl kL59 (tp rfl)) <|
          sc rfl (oCI rfl (tp rfl) (tp rfl)) <| .nil) [0, 1, 5, 14] rfl (fun a10 w10 st10 => ?_)
      refine st10.cs (c := 14) rfl h9 (fun c11 h11 => ?_) (fun c12 h12 => ?_)
      ·
        refine wp_skip ?_
        refine then_normal ?_
        refine wp_seq ?_
        refine wp_block ?_
        refine wp_seq ?_
        obtain ⟨v13, p13, h16⟩ := bs h11
        obtain ⟨v14, p14, h17⟩ := bs h16
        obtain ⟨v15, p15, h18⟩ := bs h17
        refine st10.dr (D := [_, _, _, _, _, _, _, _, _, _]) Tryz_mixed [[], [], [0, 1], [0, 1, 2], [], [], [4, 5], [4, 5, 6], [0, 1, 2, 3, 4, 5, 6, 7], [0, 1, 2, 3, 4, 5, 6, 7, 8]] [[(0, none)], [(5, none)], [(17, some 0), (18, some 1)], [(19, some 2)], [(1, none)], [(5, none)], [(21, some 4), (22, some 5)], [(23, some 6)], [(20, some 3), (24, some 7)], [(25, some 8)]] (by decide +kernel) (
          rc rfl rfl (oM rfl (tp rfl)) <|
            rc rfl rfl (oM rfl (tp rfl)) <|
            rc rfl rfl (xIdx rfl kS59 (tp rfl) (tp rfl) p13) <|
            rc rfl rfl (op_load rfl kT64 (tp rfl)) <|
            rc rfl rfl (oM rfl (tp rfl)) <|
            rc rfl rfl (oM rfl (tp rfl)) <|
            rc rfl rfl (xIdx rfl kS59 (tp rfl) (tp rfl) p14) <|
            rc rfl rfl (op_load rfl kT64 (tp rfl)) <|
            rc rfl rfl (op_call (l := [.tmp 20, .tmp 24]) rfl kN166 (.cons (tp rfl) (.cons (tp rfl) .nil)) (laws_eqStmt_w p15)) <|
            rc rfl rfl (op_not rfl (tp rfl)) <| .nil) [0, 1, 5, 26] rfl [] rfl trivial (fun a19 w19 st19 => ?_)
        refine then_normal ?_
        refine st19.cs (c := 26) rfl h18 (fun c20 h20 => ?_) (fun c21 h21 => ?_)
        ·
          refine st19.sq0 (
              sc rfl (oA rfl cB) <| .nil) [4] rfl (fun a22 w22 st22 => ?_)
          refine wp_ret (blk_ret (thn_ret (thn_ret (blk_ret (thn_ret ?_)))))
          have h23 := lo h20 hx8
          have h24 := jo h23 k6
          exact st22.ret rfl rfl h24
        ·
          refine wp_skip ?_
          refine blk_normal ?_
          refine then_normal ?_
          obtain ⟨v25, p25, h26⟩ := bs h21
          refine st19.rg0 (
              sc rfl (oM rfl (tp rfl)) <|
              sc rfl (xAr rfl (tp rfl) cI p25) <|
              sc rfl (oA rfl (tp rfl)) <| .nil) [0, 1, 5] rfl (fun a27 w27 st27 => ?_)
          refine then_normal ?_
          exact ⟨_, (Option.some.inj h26).symm, st27.sel0 [0, 1, 5] rfl⟩
      ·
        refine wp_exit (thn_exit (thn_exit (exit_here ?_)))
        refine then_normal ?_
        have h28 := lo h12 hx8
        exact ⟨_, (Option.some.inj h28).symm, st10.sel0 [] rfl⟩
    · rintro a6 w6 ⟨b6, rfl, st6⟩
      have h29 := jn k6
      refine st6.sq0 (
        sc rfl (oA rfl cB) <| .nil) [4] rfl (fun a30 w30 st30 => ?_)
      refine wp_ret ?_
      exact st30.ret rfl rfl h29

def m_laws_eqFile (x0 : File) (x1 : File) : Option Bool :=
if (cmpI .neq x0.root x1.root) = true then (some false)
else (if (decide (x0.pkg ≠ x1.pkg)) = true then (some false)
else (if (decide (x0.name ≠ x1.name)) = true then (some false)
else (if (x0.init != x1.init) = true then (some false)
else (if (cmpI .neq x0.stamp x1.stamp) = true then (some false)
else ((m_laws_eqStmtS x0.body x1.body).bind fun v22 =>
if (!v22) = true then (some false)
else (some true))))))

theorem laws_eqFile_w {x0 : File} {x1 : File} {r : Bool} (h : m_laws_eqFile x0 x1 = some r) : Fn Tryz.prog 109 [dt x0, dt x1] (dt r) := by
  unfold m_laws_eqFile at h
  refine fnx (fn := Tryz.f109) 0 Tryz.func109 rfl (of_decide_eq_true rfl) rfl (fun M w0 a0 st0 => ?_)
  refine st0.sq0 (
    sc rfl (op_box rfl (tp rfl)) <|
    sc rfl (op_box rfl (tp rfl)) <|
    sc rfl (oA rfl cB) <| .nil) [2, 3] rfl (fun a1 w1 st1 => ?_)
  refine wp_seq ?_
  refine st1.sq0 (
    sc rfl (op_field File.fld0 rfl kF61_0 (tp rfl)) <|
    sc rfl (op_load rfl kT3 (tp rfl)) <|
    sc rfl (op_field File.fld0 rfl kF61_0 (tp rfl)) <|
    sc rfl (op_load rfl kT3 (tp rfl)) <|
    sc rfl (oCI rfl (tp rfl) (tp rfl)) <| .nil) [2, 3, 9] rfl (fun a2 w2 st2 => ?_)
  refine st2.cs (c := 9) rfl h (fun c3 h3 => ?_) (fun c4 h4 => ?_)
  ·
    refine st2.sq0 (
      sc rfl (oA rfl cB) <| .nil) [4] rfl (fun a5 w5 st5 => ?_)
    refine wp_ret (thn_ret ?_)
    exact st5.ret rfl rfl h3
  ·
    refine wp_skip ?_
    refine then_normal ?_
    refine wp_seq ?_
    refine st2.sq0 (
      sc rfl (op_field File.fld1 rfl kF61_1 (tp rfl)) <|
      sc rfl (op_load rfl kT9 (tp rfl)) <|
      sc rfl (op_field File.fld1 rfl kF61_1 (tp rfl)) <|
      sc rfl (op_load rfl kT9 (tp rfl)) <|
      sc rfl (op_neS rfl (tp rfl) (tp rfl)) <| .nil) [2, 3, 14] rfl (fun a6 w6 st6 => ?_)
    refine st6.cs (c := 14) rfl h4 (fun c7 h7 => ?_) (fun c8 h8 => ?_)
    ·
      refine st6.sq0 (
        sc rfl (oA rfl cB) <| .nil) [4] rfl (fun a9 w9 st9 => ?_)
      refine wp_ret (thn_ret ?_)
      exact st9.ret rfl rfl h7
    ·
      refine wp_skip ?_
      refine then_normal ?_
      refine wp_seq ?_
      refine st6.sq0 (
        sc rfl (op_field File.fld2 rfl kF61_2 (tp rfl)) <|
        sc rfl (op_load rfl kT9 (tp rfl)) <|
        sc rfl (op_field File.fld2 rfl kF61_2 (tp rfl)) <|
        sc rfl (op_load rfl kT9 (tp rfl)) <|
        sc rfl (op_neS rfl (tp rfl) (tp rfl)) <| .nil) [2, 3, 19] rfl (fun a10 w10 st10 => ?_)
      refine st10.cs (c := 19) rfl h8 (fun c11 h11 => ?_) (fun c12 h12 => ?_)
      ·
        refine st10.sq0 (
          sc rfl (oA rfl cB) <| .nil) [4] rfl (fun a13 w13 st13 => ?_)
        refine wp_ret (thn_ret ?_)
        exact st13.ret rfl rfl h11
      ·
        refine wp_skip ?_
        refine then_normal ?_
        refine wp_seq ?_
        refine st10.sq0 (
          sc rfl (op_field File.fld3 rfl kF61_3 (tp rfl)) <|
          sc rfl (op_load rfl kT4 (tp rfl)) <|
          sc rfl (op_field File.fld3 rfl kF61_3 (tp rfl)) <|
          sc rfl (op_load rfl kT4 (tp rfl)) <|
          sc rfl (op_neT rfl kV4 (tp rfl) (tp rfl)) <| .nil) [2, 3, 24] rfl (fun a14 w14 st14 => ?_)
        refine st14.cs (c := 24) rfl h12 (fun c15 h15 => ?_) (fun c16 h16 => ?_)
        ·
          refine st14.sq0 (
            sc rfl (oA rfl cB) <| .nil) [4] rfl (fun a17 w17 st17 => ?_)
          refine wp_ret (thn_ret ?_)
          exact st17.ret rfl rfl h15
        ·
          refine wp_skip ?_
          refine then_normal ?_
          refine wp_seq ?_
          refine st14.sq0 (
            sc rfl (op_field File.fld4 rfl kF61_4 (tp rfl)) <|
            sc rfl (op_load rfl kT3 (tp rfl)) <|
            sc rfl (op_field File.fld4 rfl kF61_4 (tp rfl)) <|
            sc rfl (op_load rfl kT3 (tp rfl)) <|
            sc rfl (oCI rfl (tp rfl) (tp rfl)) <| .nil) [2, 3, 29] rfl (fun a18 w18 st18 => ?_)
          refine st18.cs (c := 29) rfl h16 (fun c19 h19 => ?_) (fun c20 h20 => ?_)
          ·
            refine st18.sq0 (
              sc rfl (oA rfl cB) <| .nil) [4] rfl (fun a21 w21 st21 => ?_)
            refine wp_ret (thn_ret ?_)
            exact st21.ret rfl rfl h19
          ·
            refine wp_skip ?_
            refine then_normal ?_
            refine wp_seq ?_
            obtain ⟨v22, p22, h23⟩ := bs h20
            refine st18.sq0 (
              sc rfl (op_field File.fld5 rfl kF61_5 (tp rfl)) <|
              sc rfl (op_load rfl kT59 (tp rfl)) <|
              sc rfl (op_field File.fld5 rfl kF61_5 (tp rfl)) <|
              sc rfl (op_load rfl kT59 (tp rfl)) <|
              sc rfl (op_call (l := [.tmp 31, .tmp 33]) rfl kN144 (.cons (tp rfl) (.cons (tp rfl) .nil)) (laws_eqStmtS_w p22)) <|
              sc rfl (op_not rfl (tp rfl)) <| .nil) [35] rfl (fun a24 w24 st24 => ?_)
            refine st24.cs (c := 35) rfl h23 (fun c25 h25 => ?_) (fun c26 h26 => ?_)
            ·
              refine st24.sq0 (
                sc rfl (oA rfl cB) <| .nil) [4] rfl (fun a27 w27 st27 => ?_)
              refine wp_ret (thn_ret ?_)
              exact st27.ret rfl rfl h25
            ·
              refine wp_skip ?_
              refine then_normal ?_
              refine st24.sq0 (
                sc rfl (oA rfl cB) <| .nil) [4] rfl (fun a28 w28 st28 => ?_)
              refine wp_ret ?_
              exact st28.ret rfl rfl h26

def m_laws_eqFileS_s0 (x0 : List File) (x1 : List File) (s8 : Int) : Option (Int ⊕ (Unit ⊕ Bool)) :=
if (cmpI .lss s8 (x0.length : Int)) = true then ((atI x0 s8).bind fun v13 =>
(atI x1 s8).bind fun v14 =>
(m_laws_eqFile v13 v14).bind fun v15 =>
if (!v15) = true then (some (.inr (.inr false)))
else ((i64 (s8 + (1 : Int))).bind fun v25 =>
some (.inl v25)))
else (some (.inr (.inl ())))

def m_laws_eqFileS (x0 : List File) (x1 : List File) : Option Bool :=
if (cmpI .neq (x0.length : Int) (x1.length : Int)) = true then (some false)
else (Option.bind (α := Unit ⊕ Bool) (loopM (fun s8 => m_laws_eqFileS_s0 x0 x1 s8) (0 : Int)) (Sum.elim (fun _b6 =>
some true) some))

theorem laws_eqFileS_w {x0 : List File} {x1 : List File} {r : Bool} (h : m_laws_eqFileS x0 x1 = some r) : Fn Tryz.prog 61 [dt x0, dt x1] (dt r) := by
  unfold m_laws_eqFileS at h
  refine fnx (fn := Tryz.f61) 0 Tryz.func61 rfl (of_decide_eq_true rfl) rfl (fun M w0 a0 st0 => ?_)
  refine st0.sq0 (
    sc rfl (oA rfl cB) <| .nil) [0, 1] rfl (fun a1 w1 st1 => ?_)
  refine wp_seq ?_
  refine st1.sq0 (
    sc rfl (oM rfl (tp rfl)) <|
    sc rfl (op_lenL rfl kL28 (tp rfl)) <|
    sc rfl (oM rfl (tp rfl)) <|
    sc rfl (op_lenL rfl kL28 (tp rfl)) <|
    sc rfl (oCI rfl (tp rfl) (tp rfl)) <| .nil) [0, 1, 10] rfl (fun a2 w2 st2 => ?_)
  refine st2.cs (c := 10) rfl h (fun c3 h3 => ?_) (fun c4 h4 => ?_)
  ·
    refine st2.sq0 (
      sc rfl (oA rfl cB) <| .nil) [4] rfl (fun a5 w5 st5 => ?_)
    refine wp_ret (thn_ret ?_)
    exact st5.ret rfl rfl h3
  ·
    refine wp_skip ?_
    refine then_normal ?_
    obtain ⟨o6, p6, k6⟩ := bs h4
    refine wp_seq_join (fun a w => ∃ b6, o6 = .inl b6 ∧ Sx (Frm.of w0) 27 M M [] [] [] a w) ?_ ?_
    ·
      refine st2.sq0 (
        sc rfl (oA rfl cI) <| .nil) [0, 1, 5] rfl (fun a7 w7 st7 => ?_)
      refine wp_block ?_
      refine loop_model p6 (fun s8 a w => Sx (Frm.of w0) 27 M M [] [(0, dt x0), (1, dt x1), (5, dt s8)] [] a w) (st7.sel0 [0, 1, 5] rfl) ?_
      rintro s8 x8 a8 w8 st8 hs8 hx8
      have h9 : m_laws_eqFileS_s0 x0 x1 s8 = some x8 := hs8
      unfold m_laws_eqFileS_s0 at h9
      refine wp_seq ?_
      refine st8.sq0 (
          sc rfl (oM rfl (tp rfl)) <|
          sc rfl (oM rfl (tp rfl)) <|
          sc rfl (op_lenL rfl kL28 (tp rfl)) <|
          sc rfl (oCI rfl (tp rfl) (tp rfl)) <| .nil) [0, 1, 5, 14] rfl (fun a10 w10 st10 => ?_)
      refine st10.cs (c := 14) rfl h9 (fun c11 h11 => ?_) (fun c12 h12 => ?_)
      ·
        refine wp_skip ?_
        refine then_normal ?_
        refine wp_seq ?_
        refine wp_block ?_
        refine wp_seq ?_
        obtain ⟨v13, p13, h16⟩ := bs h11
        obtain ⟨v14, p14, h17⟩ := bs h16
        obtain ⟨v15, p15, h18⟩ := bs h17
        refine st10.dr (D := [_, _, _, _, _, _, _, _, _, _]) Tryz_mixed [[], [], [0, 1], [0, 1, 2], [], [], [4, 5], [4, 5, 6], [0, 1, 2, 3, 4, 5, 6, 7], [0, 1, 2, 3, 4, 5, 6, 7, 8]] [[(0, none)], [(5, none)], [(17, some 0), (18, some 1)], [(19, some 2)], [(1, none)], [(5, none)], [(21, some 4), (22, some 5)], [(23, some 6)], [(20, some 3), (24, some 7)], [(25, some 8)]] (by decide +kernel) (
          rc rfl rfl (oM rfl (tp rfl)) <|
            rc rfl rfl (oM rfl (tp rfl)) <|
            rc rfl rfl (xIdx rfl kS28 (tp rfl) (tp rfl) p13) <|
            rc rfl rfl (op_load rfl kT61 (tp rfl)) <|
            rc rfl rfl (oM rfl (tp rfl)) <|
            rc rfl rfl (oM rfl (tp rfl)) <|
            rc rfl rfl (xIdx rfl kS28 (tp rfl) (tp rfl) p14) <|
            rc rfl rfl (op_load rfl kT61 (tp rfl)) <|
            rc rfl rfl (op_call (l := [.tmp 20, .tmp 24]) rfl kN109 (.cons (tp rfl) (.cons (tp rfl) .nil)) (laws_eqFile_w p15)) <|
            rc rfl rfl (op_not rfl (tp rfl)) <| .nil) [0, 1, 5, 26] rfl [] rfl trivial (fun a19 w19 st19 => ?_)
        refine then_normal ?_
        refine st19.cs (c := 26) rfl h18 (fun c20 h20 => ?_) (fun c21 h21 => ?_)
        ·
          refine st19.sq0 (
              sc rfl (oA rfl cB) <| .nil) [4] rfl (fun a22 w22 st22 => ?_)
          refine wp_ret (blk_ret (thn_ret (thn_ret (blk_ret (thn_ret ?_)))))
          have h23 := lo h20 hx8
          have h24 := jo h23 k6
          exact st22.ret rfl rfl h24
        ·
          refine wp_skip ?_
          refine blk_normal ?_
          refine then_normal ?_
          obtain ⟨v25, p25, h26⟩ := bs h21
          refine st19.rg0 (
              sc rfl (oM rfl (tp rfl)) <|
              sc rfl (xAr rfl (tp rfl) cI p25) <|
              sc rfl (oA rfl (tp rfl)) <| .nil) [0, 1, 5] rfl (fun a27 w27 st27 => ?_)
          refine then_normal ?_
          exact ⟨_, (Option.some.inj h26).symm, st27.sel0 [0, 1, 5] rfl⟩
      ·
        refine wp_exit (thn_exit (thn_exit (exit_here ?_)))
        refine then_normal ?_
        have h28 := lo h12 hx8
        exact ⟨_, (Option.some.inj h28).symm, st10.sel0 [] rfl⟩
    · rintro a6 w6 ⟨b6, rfl, st6⟩
      have h29 := jn k6
      refine st6.sq0 (
        sc rfl (oA rfl cB) <| .nil) [4] rfl (fun a30 w30 st30 => ?_)
      refine wp_ret ?_
      exact st30.ret rfl rfl h29

def m_laws_eqTree (x0 : Tree) (x1 : Tree) : Option Bool :=
(m_laws_eqFileS x0.files x1.files).bind fun v2 =>
if (!v2) = true then (some false)
else (some true)

theorem laws_eqTree_w {x0 : Tree} {x1 : Tree} {r : Bool} (h : m_laws_eqTree x0 x1 = some r) : Fn Tryz.prog 18 [dt x0, dt x1] (dt r) := by
  unfold m_laws_eqTree at h
  refine fnx (fn := Tryz.f18) 0 Tryz.func18 rfl (of_decide_eq_true rfl) rfl (fun M w0 a0 st0 => ?_)
  refine st0.sq0 (
    sc rfl (op_box rfl (tp rfl)) <|
    sc rfl (op_box rfl (tp rfl)) <|
    sc rfl (oA rfl cB) <| .nil) [2, 3] rfl (fun a1 w1 st1 => ?_)
  refine wp_seq ?_
  obtain ⟨v2, p2, h3⟩ := bs h
  refine st1.sq0 (
    sc rfl (op_field Tree.fld0 rfl kF30_0 (tp rfl)) <|
    sc rfl (op_load rfl kT28 (tp rfl)) <|
    sc rfl (op_field Tree.fld0 rfl kF30_0 (tp rfl)) <|
    sc rfl (op_load rfl kT28 (tp rfl)) <|
    sc rfl (op_call (l := [.tmp 6, .tmp 8]) rfl kN61 (.cons (tp rfl) (.cons (tp rfl) .nil)) (laws_eqFileS_w p2)) <|
    sc rfl (op_not rfl (tp rfl)) <| .nil) [10] rfl (fun a4 w4 st4 => ?_)
  refine st4.cs (c := 10) rfl h3 (fun c5 h5 => ?_) (fun c6 h6 => ?_)
  ·
    refine st4.sq0 (
      sc rfl (oA rfl cB) <| .nil) [4] rfl (fun a7 w7 st7 => ?_)
    refine wp_ret (thn_ret ?_)
    exact st7.ret rfl rfl h5
  ·
    refine wp_skip ?_
    refine then_normal ?_
    refine st4.sq0 (
      sc rfl (oA rfl cB) <| .nil) [4] rfl (fun a8 w8 st8 => ?_)
    refine wp_ret ?_
    exact st8.ret rfl rfl h6

def m_laws_eqIntS_s0 (x0 : List Int) (x1 : List Int) (s8 : Int) : Option (Int ⊕ (Unit ⊕ Bool)) :=
if (cmpI .lss s8 (x0.length : Int)) = true then ((atI x0 s8).bind fun v13 =>
(atI x1 s8).bind fun v14 =>
if (cmpI .neq v13 v14) = true then (some (.inr (.inr false)))
else ((i64 (s8 + (1 : Int))).bind fun v23 =>
some (.inl v23)))
else (some (.inr (.inl ())))

def m_laws_eqIntS (x0 : List Int) (x1 : List Int) : Option Bool :=
if (cmpI .neq (x0.length : Int) (x1.length : Int)) = true then (some false)
else (Option.bind (α := Unit ⊕ Bool) (loopM (fun s8 => m_laws_eqIntS_s0 x0 x1 s8) (0 : Int)) (Sum.elim (fun _b6 =>
some true) some))

theorem laws_eqIntS_w {x0 : List Int} {x1 : List Int} {r : Bool} (h : m_laws_eqIntS x0 x1 = some r) : Fn Tryz.prog 19 [dt x0, dt x1] (dt r) := by
  unfold m_laws_eqIntS at h
  refine fnx (fn := Tryz.f19) 0 Tryz.func19 rfl (of_decide_eq_true rfl) rfl (fun M w0 a0 st0 => ?_)
  refine st0.sq0 (
    sc rfl (oA rfl cB) <| .nil) [0, 1] rfl (fun a1 w1 st1 => ?_)
  refine wp_seq ?_
  refine st1.sq0 (
    sc rfl (oM rfl (tp rfl)) <|
    sc rfl (op_lenL rfl kL25 (tp rfl)) <|
    sc rfl (oM rfl (tp rfl)) <|
    sc rfl (op_lenL rfl kL25 (tp rfl)) <|
    sc rfl (oCI rfl (tp rfl) (tp rfl)) <| .nil) [0, 1, 10] rfl (fun a2 w2 st2 => ?_)
  refine st2.cs (c := 10) rfl h (fun c3 h3 => ?_) (fun c4 h4 => ?_)
  ·
    refine st2.sq0 (
      sc rfl (oA rfl cB) <| .nil) [4] rfl (fun a5 w5 st5 => ?_)
    refine wp_ret (thn_ret ?_)
    exact st5.ret rfl rfl h3
  ·
    refine wp_skip ?_
    refine then_normal ?_
    obtain ⟨o6, p6, k6⟩ := bs h4
    refine wp_seq_join (fun a w => ∃ b6, o6 = .inl b6 ∧ Sx (Frm.of w0) 26 M M [] [] [] a w) ?_ ?_
    ·
      refine st2.sq0 (
        sc rfl (oA rfl cI) <| .nil) [0, 1, 5] rfl (fun a7 w7 st7 => ?_)
      refine wp_block ?_
      refine loop_model p6 (fun s8 a w => Sx (Frm.of w0) 26 M M [] [(0, dt x0), (1, dt x1), (5, dt s8)] [] a w) (st7.sel0 [0, 1, 5] rfl) ?_
      rintro s8 x8 a8 w8 st8 hs8 hx8
      have h9 : m_laws_eqIntS_s0 x0 x1 s8 = some x8 := hs8
      unfold m_laws_eqIntS_s0 at h9
      refine wp_seq ?_
      refine st8.sq0 (
          sc rfl (oM rfl (tp rfl)) <|
          sc rfl (oM rfl (tp rfl)) <|
          sc rfl (op_lenL rfl kL25 (tp rfl)) <|
          sc rfl (oCI rfl (tp rfl) (tp rfl)) <| .nil) [0, 1, 5, 14] rfl (fun a10 w10 st10 => ?_)
      refine st10.cs (c := 14) rfl h9 (fun c11 h11 => ?_) (fun c12 h12 => ?_)
      ·
        refine wp_skip ?_
        refine then_normal ?_
        refine wp_seq ?_
        refine wp_block ?_
        refine wp_seq ?_
        obtain ⟨v13, p13, h15⟩ := bs h11
        obtain ⟨v14, p14, h16⟩ := bs h15
        refine st10.dr (D := [_, _, _, _, _, _, _, _, _]) Tryz_mixed [[], [], [0, 1], [0, 1, 2], [], [], [4, 5], [4, 5, 6], [0, 1, 2, 3, 4, 5, 6, 7]] [[(0, none)], [(5, none)], [(17, some 0), (18, some 1)], [(19, some 2)], [(1, none)], [(5, none)], [(21, some 4), (22, some 5)], [(23, some 6)], [(20, some 3), (24, some 7)]] (by decide +kernel) (
          rc rfl rfl (oM rfl (tp rfl)) <|
            rc rfl rfl (oM rfl (tp rfl)) <|
            rc rfl rfl (xIdx rfl kS25 (tp rfl) (tp rfl) p13) <|
            rc rfl rfl (op_load rfl kT3 (tp rfl)) <|
            rc rfl rfl (oM rfl (tp rfl)) <|
            rc rfl rfl (oM rfl (tp rfl)) <|
            rc rfl rfl (xIdx rfl kS25 (tp rfl) (tp rfl) p14) <|
            rc rfl rfl (op_load rfl kT3 (tp rfl)) <|
            rc rfl rfl (oCI rfl (tp rfl) (tp rfl)) <| .nil) [0, 1, 5, 25] rfl [] rfl trivial (fun a17 w17 st17 => ?_)
        refine then_normal ?_
        refine st17.cs (c := 25) rfl h16 (fun c18 h18 => ?_) (fun c19 h19 => ?_)
        ·
          refine st17.sq0 (
              sc rfl (oA rfl cB) <| .nil) [4] rfl (fun a20 w20 st20 => ?_)
          refine wp_ret (blk_ret (thn_ret (thn_ret (blk_ret (thn_ret ?_)))))
          have h21 := lo h18 hx8
          have h22 := jo h21 k6
          exact st20.ret rfl rfl h22
        ·
          refine wp_skip ?_
          refine blk_normal ?_
          refine then_normal ?_
          obtain ⟨v23, p23, h24⟩ := bs h19
          refine st17.rg0 (
              sc rfl (oM rfl (tp rfl)) <|
              sc rfl (xAr rfl (tp rfl) cI p23) <|
              sc rfl (oA rfl (tp rfl)) <| .nil) [0, 1, 5] rfl (fun a25 w25 st25 => ?_)
          refine then_normal ?_
          exact ⟨_, (Option.some.inj h24).symm, st25.sel0 [0, 1, 5] rfl⟩
      ·
        refine wp_exit (thn_exit (thn_exit (exit_here ?_)))
        refine then_normal ?_
        have h26 := lo h12 hx8
        exact ⟨_, (Option.some.inj h26).symm, st10.sel0 [] rfl⟩
    · rintro a6 w6 ⟨b6, rfl, st6⟩
      have h27 := jn k6
      refine st6.sq0 (
        sc rfl (oA rfl cB) <| .nil) [4] rfl (fun a28 w28 st28 => ?_)
      refine wp_ret ?_
      exact st28.ret rfl rfl h27

def m_laws_toStmt (x0 : Stmt) : Option Stmt :=
some ({ { { { { zStmt with kind := x0.kind } with module := x0.module } with level := x0.level } with name := x0.name } with value := x0.value })

theorem laws_toStmt_w {x0 : Stmt} {r : Stmt} (h : m_laws_toStmt x0 = some r) : Fn Tryz.prog 163 [dt x0] (dt r) := by
  unfold m_laws_toStmt at h
  refine fnx (fn := Tryz.f163) 2 Tryz.func163 rfl (of_decide_eq_true rfl) rfl (fun M w0 a0 st0 => ?_)
  refine wp_seq ?_
  refine wp_region_list ?_
  refine st0.seg 1 (
    sc rfl (op_box rfl (tp rfl)) <| .nil) [1] rfl [] rfl trivial (fun a1 w1 st1 => ?_)
  refine st1.alloc 0 rfl rfl kZ64 zrStmt (by simp) [1] rfl [] rfl rfl (fun b3 M3 a3 w3 st3 => ?_)
  refine wpList_nil ?_
  refine then_normal ?_
  refine wp_seq ?_
  refine wp_region_list ?_
  refine st3.alloc 1 rfl rfl kZ64 zrStmt (by simp) [1] rfl [2] rfl rfl (fun b5 M5 a5 w5 st5 => ?_)
  refine wpList_nil ?_
  refine then_normal ?_
  refine wp_seq ?_
  refine wp_region_list ?_
  refine st5.seg 3 (
    sc rfl (op_field Stmt.fld0 rfl kF138_0 (tp rfl)) <|
    sc rfl (op_load rfl kT3 (tp rfl)) <|
    sc rfl (op_fieldBox Stmt.fld0 rfl kF64_0 (tp rfl)) <| .nil) [1, 5] rfl [(2, 0), (3, 1), (6, 1)] rfl ⟨fun _ h => h, ⟨fun _ h => h, ⟨fun _ h => h, trivial⟩⟩⟩ (fun a6 w6 st6 => ?_)
  refine st6.store (sb := 3) 1 Stmt.set0 rfl rfl rfl kT3 rfl rfl (tp rfl) rfl [1] rfl [2] rfl rfl (fun M8 w8 st8 => ?_)
  refine wpList_nil ?_
  refine then_normal ?_
  refine wp_seq ?_
  refine wp_region_list ?_
  refine st8.seg 3 (
    sc rfl (op_field Stmt.fld1 rfl kF138_1 (tp rfl)) <|
    sc rfl (op_load rfl kT9 (tp rfl)) <|
    sc rfl (op_fieldBox Stmt.fld1 rfl kF64_1 (tp rfl)) <| .nil) [1, 8] rfl [(2, 0), (3, 1), (9, 1)] rfl ⟨fun _ h => h, ⟨fun _ h => h, ⟨fun _ h => h, trivial⟩⟩⟩ (fun a9 w9 st9 => ?_)
  refine st9.store (sb := 3) 1 Stmt.set1 rfl rfl rfl kT9 rfl rfl (tp rfl) rfl [1] rfl [2] rfl rfl (fun M11 w11 st11 => ?_)
  refine wpList_nil ?_
  refine then_normal ?_
  refine wp_seq ?_
  refine wp_region_list ?_
  refine st11.seg 3 (
    sc rfl (op_field Stmt.fld2 rfl kF138_2 (tp rfl)) <|
    sc rfl (op_load rfl kT3 (tp rfl)) <|
    sc rfl (op_fieldBox Stmt.fld2 rfl kF64_2 (tp rfl)) <| .nil) [1, 11] rfl [(2, 0), (3, 1), (12, 1)] rfl ⟨fun _ h => h, ⟨fun _ h => h, ⟨fun _ h => h, trivial⟩⟩⟩ (fun a12 w12 st12 => ?_)
  refine st12.store (sb := 3) 1 Stmt.set2 rfl rfl rfl kT3 rfl rfl (tp rfl) rfl [1] rfl [2] rfl rfl (fun M14 w14 st14 => ?_)
  refine wpList_nil ?_
  refine then_normal ?_
  refine wp_seq ?_
  refine wp_region_list ?_
  refine st14.seg 3 (
    sc rfl (op_field Stmt.fld3 rfl kF138_3 (tp rfl)) <|
    sc rfl (op_load rfl kT9 (tp rfl)) <|
    sc rfl (op_fieldBox Stmt.fld3 rfl kF64_3 (tp rfl)) <| .nil) [1, 14] rfl [(2, 0), (3, 1), (15, 1)] rfl ⟨fun _ h => h, ⟨fun _ h => h, ⟨fun _ h => h, trivial⟩⟩⟩ (fun a15 w15 st15 => ?_)
  refine st15.store (sb := 3) 1 Stmt.set3 rfl rfl rfl kT9 rfl rfl (tp rfl) rfl [1] rfl [2] rfl rfl (fun M17 w17 st17 => ?_)
  refine wpList_nil ?_
  refine then_normal ?_
  refine wp_seq ?_
  refine wp_region_list ?_
  refine st17.seg 3 (
    sc rfl (op_field Stmt.fld4 rfl kF138_4 (tp rfl)) <|
    sc rfl (op_load rfl kT3 (tp rfl)) <|
    sc rfl (op_fieldBox Stmt.fld4 rfl kF64_4 (tp rfl)) <| .nil) [17] rfl [(2, 0), (3, 1), (18, 1)] rfl ⟨fun _ h => h, ⟨fun _ h => h, ⟨fun _ h => h, trivial⟩⟩⟩ (fun a18 w18 st18 => ?_)
  refine st18.store (sb := 3) 1 Stmt.set4 rfl rfl rfl kT3 rfl rfl (tp rfl) rfl [] rfl [2] rfl rfl (fun M20 w20 st20 => ?_)
  refine wpList_nil ?_
  refine then_normal ?_
  refine wp_seq ?_
  refine wp_region_list ?_
  refine st20.seg 1 (
    sc rfl (op_loadBox rfl kT64 (tp rfl)) <| .nil) [19] rfl [(2, 0)] rfl ⟨fun _ h => h, trivial⟩ (fun a21 w21 st21 => ?_)
  refine st21.store (sb := 2) 0 FldS.id rfl rfl rfl kT64 rfl rfl (tp rfl) rfl [] rfl [] rfl rfl (fun M23 w23 st23 => ?_)
  refine wpList_nil ?_
  refine then_normal ?_
  refine wp_ret ?_
  exact st23.ret_box rfl kT64 rfl h

def m_laws_toStmtS_s0 (x0 : List Stmt) (s10 : (List Stmt) × Int) : Option (((List Stmt) × Int) ⊕ (List Stmt)) :=
if (cmpI .lss s10.2 (x0.length : Int)) = true then ((atI x0 s10.2).bind fun v15 =>
(m_laws_toStmt v15).bind fun v16 =>
(atI s10.1 s10.2).bind fun _v17 =>
(setO s10.1 s10.2 v16).bind fun v24 =>
(i64 (s10.2 + (1 : Int))).bind fun v26 =>
some (.inl (v24, v26)))
else (some (.inr s10.1))

def m_laws_toStmtS (x0 : List Stmt) : Option (List Stmt) :=
(makeO 5 56 (x0.length : Int) zStmt).bind fun v5 =>
Option.bind (α := (List Stmt)) (loopM (fun s10 => m_laws_toStmtS_s0 x0 s10) (v5, (0 : Int))) fun o8 =>
some o8

theorem laws_toStmtS_w {x0 : List Stmt} {r : List Stmt} (h : m_laws_toStmtS x0 = some r) : FnOwn Tryz.prog 142 [dt x0] 64 r := by
  unfold m_laws_toStmtS at h
  refine fnxO (fn := Tryz.f142) 1 Tryz.func142 rfl (of_decide_eq_true rfl) rfl (fun M w0 a0 st0 => ?_)
  refine st0.sq0 (
    sc rfl (oA rfl (opd_nilTip (α := Stmt) (e := 64))) <| .nil) [0] rfl (fun a1 w1 st1 => ?_)
  refine wp_seq ?_
  refine wp_region_list ?_
  refine st1.seg 2 (
    sc rfl (oM rfl (tp rfl)) <|
    sc rfl (op_lenL rfl kL84 (tp rfl)) <| .nil) [0, 6] rfl [] rfl trivial (fun a2 w2 st2 => ?_)
  obtain ⟨v5, p5, h6⟩ := bs h
  refine st2.make 0 rfl rfl kE59 kZ64 zrStmt rfl (by simp) p5 [0] rfl [] rfl rfl (fun g4 M4 a4 w4 st4 => ?_)
  refine st4.seg 1 (
    sc rfl (oA rfl (tp rfl)) <| .nil) [0] rfl [(3, 0)] rfl ⟨fun _ h => h, trivial⟩ (fun a7 w7 st7 => ?_)
  refine wpList_nil ?_
  refine then_normal ?_
  obtain ⟨o8, p8, k8⟩ := bs h6
  refine wp_seq_join (fun a w => ∃ M1 q8_0, Sx (Frm.of w0) 23 M M1 [oneB q8_0] [] [(3, 0, dtip q8_0 64 o8)] a w) ?_ ?_
  ·
    refine st7.sq (
      sc rfl (oA rfl cI) <| .nil) [0, 4] rfl [(3, 0)] rfl ⟨fun _ h => h, trivial⟩ (fun a9 w9 st9 => ?_)
    refine wp_block ?_
    refine loop_model p8 (fun s10 a w => ∃ M1 q10_0, Sx (Frm.of w0) 23 M M1 [oneB q10_0] [(0, dt x0), (4, dt s10.2)] [(3, 0, dtip q10_0 64 s10.1)] a w) ⟨_, _, st9.sel [0, 4] rfl [(3, 0)] rfl ⟨fun _ h => h, trivial⟩⟩ ?_
    rintro s10 x10 a10 w10 ⟨M10, q10_0, st10⟩ hs10 hx10
    have h11 : m_laws_toStmtS_s0 x0 s10 = some x10 := hs10
    unfold m_laws_toStmtS_s0 at h11
    refine wp_seq ?_
    refine st10.sq (
        sc rfl (oM rfl (tp rfl)) <|
        sc rfl (oM rfl (tp rfl)) <|
        sc rfl (op_lenL rfl kL84 (tp rfl)) <|
        sc rfl (oCI rfl (tp rfl) (tp rfl)) <| .nil) [0, 4, 11] rfl [(3, 0)] rfl ⟨fun _ h => h, trivial⟩ (fun a12 w12 st12 => ?_)
    refine st12.cs (c := 11) rfl h11 (fun c13 h13 => ?_) (fun c14 h14 => ?_)
    ·
      refine wp_skip ?_
      refine then_normal ?_
      refine wp_seq ?_
      refine wp_block ?_
      refine wp_region_list ?_
      obtain ⟨v15, p15, h18⟩ := bs h13
      obtain ⟨v16, p16, h19⟩ := bs h18
      obtain ⟨v17, p17, h20⟩ := bs h19
      refine st12.seg 8 (
          sc rfl (oM rfl (tp rfl)) <|
          sc rfl (oM rfl (tp rfl)) <|
          sc rfl (oM rfl (tp rfl)) <|
          sc rfl (oM rfl (tp rfl)) <|
          sc rfl (xIdx rfl kS84 (tp rfl) (tp rfl) p15) <|
          sc rfl (op_load rfl kT138 (tp rfl)) <|
          sc rfl (op_call (l := [.tmp 19]) rfl kN163 (.cons (tp rfl) .nil) (laws_toStmt_w p16)) <|
          sc rfl (xIdxT rfl kS59 (tp rfl) (tp rfl) p17) <| .nil) [0, 4, 20] rfl [(3, 0), (21, 0)] rfl ⟨fun _ h => h, ⟨fun _ h => h, trivial⟩⟩ (fun a21 w21 st21 => ?_)
      obtain ⟨v24, p24, h25⟩ := bs h20
      refine st21.storeT (sb := 3) 0 rfl rfl rfl kT64 rfl rfl (tp rfl) rfl p24 [0, 4] rfl [] rfl rfl (fun M23 w23 st23 => ?_)
      refine wpList_nil ?_
      refine blk_normal ?_
      refine then_normal ?_
      obtain ⟨v26, p26, h27⟩ := bs h25
      refine st23.rg (
          sc rfl (oM rfl (tp rfl)) <|
          sc rfl (xAr rfl (tp rfl) cI p26) <|
          sc rfl (oA rfl (tp rfl)) <| .nil) [0, 4] rfl [(3, 0)] rfl ⟨fun _ h => h, trivial⟩ (fun a28 w28 st28 => ?_)
      refine then_normal ?_
      exact ⟨_, (Option.some.inj h27).symm, ⟨_, _, st28.sel [0, 4] rfl [(3, 0)] rfl ⟨fun _ h => h, trivial⟩⟩⟩
    ·
      refine wp_exit (thn_exit (thn_exit (exit_here ?_)))
      refine then_normal ?_
      have h29 := lo h14 hx10
      obtain rfl := Option.some.inj h29
      exact ⟨_, _, st12.sel [] rfl [(3, 0)] rfl ⟨fun _ h => h, trivial⟩⟩
  · rintro a8 w8 ⟨M8, q8_0, st8⟩
    have h30 := k8
    refine st8.sq (
      sc rfl (oM rfl (tp rfl)) <|
      sc rfl (oA rfl (tp rfl)) <| .nil) [] rfl [(2, 0)] rfl ⟨fun _ h => h, trivial⟩ (fun a31 w31 st31 => ?_)
    refine wp_ret ?_
    exact st31.ret_own 0 rfl rfl (fun _ h => h) h30

def m_laws_toIntS_s0 (x0 : List Int) (s10 : (List Int) × Int) : Option (((List Int) × Int) ⊕ (List Int)) :=
if (cmpI .lss s10.2 (x0.length : Int)) = true then ((atI x0 s10.2).bind fun v15 =>
(atI s10.1 s10.2).bind fun _v16 =>
(setO s10.1 s10.2 v15).bind fun v22 =>
(i64 (s10.2 + (1 : Int))).bind fun v24 =>
some (.inl (v22, v24)))
else (some (.inr s10.1))

def m_laws_toIntS (x0 : List Int) : Option (List Int) :=
(makeO 1 8 (x0.length : Int) zInt).bind fun v5 =>
Option.bind (α := (List Int)) (loopM (fun s10 => m_laws_toIntS_s0 x0 s10) (v5, (0 : Int))) fun o8 =>
some o8

theorem laws_toIntS_w {x0 : List Int} {r : List Int} (h : m_laws_toIntS x0 = some r) : FnOwn Tryz.prog 16 [dt x0] 3 r := by
  unfold m_laws_toIntS at h
  refine fnxO (fn := Tryz.f16) 1 Tryz.func16 rfl (of_decide_eq_true rfl) rfl (fun M w0 a0 st0 => ?_)
  refine st0.sq0 (
    sc rfl (oA rfl (opd_nilTip (α := Int) (e := 3))) <| .nil) [0] rfl (fun a1 w1 st1 => ?_)
  refine wp_seq ?_
  refine wp_region_list ?_
  refine st1.seg 2 (
    sc rfl (oM rfl (tp rfl)) <|
    sc rfl (op_lenL rfl kL25 (tp rfl)) <| .nil) [0, 6] rfl [] rfl trivial (fun a2 w2 st2 => ?_)
  obtain ⟨v5, p5, h6⟩ := bs h
  refine st2.make 0 rfl rfl kE25 kZ3 zrInt rfl (by simp) p5 [0] rfl [] rfl rfl (fun g4 M4 a4 w4 st4 => ?_)
  refine st4.seg 1 (
    sc rfl (oA rfl (tp rfl)) <| .nil) [0] rfl [(3, 0)] rfl ⟨fun _ h => h, trivial⟩ (fun a7 w7 st7 => ?_)
  refine wpList_nil ?_
  refine then_normal ?_
  obtain ⟨o8, p8, k8⟩ := bs h6
  refine wp_seq_join (fun a w => ∃ M1 q8_0, Sx (Frm.of w0) 22 M M1 [oneB q8_0] [] [(3, 0, dtip q8_0 3 o8)] a w) ?_ ?_
  ·
    refine st7.sq (
      sc rfl (oA rfl cI) <| .nil) [0, 4] rfl [(3, 0)] rfl ⟨fun _ h => h, trivial⟩ (fun a9 w9 st9 => ?_)
    refine wp_block ?_
    refine loop_model p8 (fun s10 a w => ∃ M1 q10_0, Sx (Frm.of w0) 22 M M1 [oneB q10_0] [(0, dt x0), (4, dt s10.2)] [(3, 0, dtip q10_0 3 s10.1)] a w) ⟨_, _, st9.sel [0, 4] rfl [(3, 0)] rfl ⟨fun _ h => h, trivial⟩⟩ ?_
    rintro s10 x10 a10 w10 ⟨M10, q10_0, st10⟩ hs10 hx10
    have h11 : m_laws_toIntS_s0 x0 s10 = some x10 := hs10
    unfold m_laws_toIntS_s0 at h11
    refine wp_seq ?_
    refine st10.sq (
        sc rfl (oM rfl (tp rfl)) <|
        sc rfl (oM rfl (tp rfl)) <|
        sc rfl (op_lenL rfl kL25 (tp rfl)) <|
        sc rfl (oCI rfl (tp rfl) (tp rfl)) <| .nil) [0, 4, 11] rfl [(3, 0)] rfl ⟨fun _ h => h, trivial⟩ (fun a12 w12 st12 => ?_)
    refine st12.cs (c := 11) rfl h11 (fun c13 h13 => ?_) (fun c14 h14 => ?_)
    ·
      refine wp_skip ?_
      refine then_normal ?_
      refine wp_seq ?_
      refine wp_block ?_
      refine wp_region_list ?_
      obtain ⟨v15, p15, h17⟩ := bs h13
      obtain ⟨v16, p16, h18⟩ := bs h17
      refine st12.seg 7 (
          sc rfl (oM rfl (tp rfl)) <|
          sc rfl (oM rfl (tp rfl)) <|
          sc rfl (oM rfl (tp rfl)) <|
          sc rfl (oM rfl (tp rfl)) <|
          sc rfl (xIdx rfl kS25 (tp rfl) (tp rfl) p15) <|
          sc rfl (op_load rfl kT3 (tp rfl)) <|
          sc rfl (xIdxT rfl kS25 (tp rfl) (tp rfl) p16) <| .nil) [0, 4, 19] rfl [(3, 0), (20, 0)] rfl ⟨fun _ h => h, ⟨fun _ h => h, trivial⟩⟩ (fun a19 w19 st19 => ?_)
      obtain ⟨v22, p22, h23⟩ := bs h18
      refine st19.storeT (sb := 3) 0 rfl rfl rfl kT3 rfl rfl (tp rfl) rfl p22 [0, 4] rfl [] rfl rfl (fun M21 w21 st21 => ?_)
      refine wpList_nil ?_
      refine blk_normal ?_
      refine then_normal ?_
      obtain ⟨v24, p24, h25⟩ := bs h23
      refine st21.rg (
          sc rfl (oM rfl (tp rfl)) <|
          sc rfl (xAr rfl (tp rfl) cI p24) <|
          sc rfl (oA rfl (tp rfl)) <| .nil) [0, 4] rfl [(3, 0)] rfl ⟨fun _ h => h, trivial⟩ (fun a26 w26 st26 => ?_)
      refine then_normal ?_
      exact ⟨_, (Option.some.inj h25).symm, ⟨_, _, st26.sel [0, 4] rfl [(3, 0)] rfl ⟨fun _ h => h, trivial⟩⟩⟩
    ·
      refine wp_exit (thn_exit (thn_exit (exit_here ?_)))
      refine then_normal ?_
      have h27 := lo h14 hx10
      obtain rfl := Option.some.inj h27
      exact ⟨_, _, st12.sel [] rfl [(3, 0)] rfl ⟨fun _ h => h, trivial⟩⟩
  · rintro a8 w8 ⟨M8, q8_0, st8⟩
    have h28 := k8
    refine st8.sq (
      sc rfl (oM rfl (tp rfl)) <|
      sc rfl (oA rfl (tp rfl)) <| .nil) [] rfl [(2, 0)] rfl ⟨fun _ h => h, trivial⟩ (fun a29 w29 st29 => ?_)
    refine wp_ret ?_
    exact st29.ret_own 0 rfl rfl (fun _ h => h) h28

def m_laws_toFile (x0 : File) : Option File :=
(m_laws_toStmtS x0.body).bind fun v16 =>
some (⟨x0.root, x0.pkg, x0.name, x0.init, x0.stamp, v16⟩ : File)

theorem laws_toFile_w {x0 : File} {r : File} (h : m_laws_toFile x0 = some r) : FnN Tryz.prog 106 [dt x0] (.ow (owFile (Ow.row 64 (Ow.frz (α := Stmt)))) r) := by
  unfold m_laws_toFile at h
  refine fnN (fn := Tryz.f106) 3 Tryz.func106 rfl (of_decide_eq_true rfl) rfl (fun M w0 a0 st0 => ?_)
  refine wp_seq ?_
  refine wp_region_list ?_
  refine st0.seg 1 (
    sc rfl (op_box rfl (tp rfl)) <| .nil) [1] rfl [] rfl trivial (fun a1 w1 st1 => ?_)
  refine st1.alcW (ow := (owFile (Ow.row 64 (Ow.frz (α := Stmt))))) 1 rfl rfl kZ61 (owFile.z Ow.row_z) (by simp) [1] rfl [] rfl rfl (fun b2 M2 a2 w2 st2 => ?_)
  refine wpList_nil ?_
  refine then_normal ?_
  refine wp_seq ?_
  refine wp_region_list ?_
  refine st2.alcW (ow := (owFile (Ow.row 64 (Ow.frz (α := Stmt))))) 2 rfl rfl kZ61 (owFile.z Ow.row_z) (by simp) [1] rfl [2] rfl rfl (fun b3 M3 a3 w3 st3 => ?_)
  refine wpList_nil ?_
  refine then_normal ?_
  refine wp_seq ?_
  refine wp_region_list ?_
  refine st3.seg 3 (
    sc rfl (op_field File.fld0 rfl kF86_0 (tp rfl)) <|
    sc rfl (op_load rfl kT3 (tp rfl)) <|
    sc rfl (xFa rfl kF61_0 (opd_nm rfl)) <| .nil) [1, 5, 6] rfl [(2, 1), (3, 2)] rfl ⟨fun _ h => h, ⟨fun _ h => h, trivial⟩⟩ (fun a4 w4 st4 => ?_)
  refine st4.stF (sb := 3) 2 ((PV.root.box rfl).fld owFile.f0) rfl rfl rfl kT3 (by simp) (tp rfl) (tp rfl) rfl rfl (fun _ h => h) [1] rfl [2] rfl rfl (fun w5 st5 => ?_)
  refine wpList_nil ?_
  refine then_normal ?_
  refine wp_seq ?_
  refine wp_region_list ?_
  refine st5.seg 3 (
    sc rfl (op_field File.fld1 rfl kF86_1 (tp rfl)) <|
    sc rfl (op_load rfl kT9 (tp rfl)) <|
    sc rfl (xFa rfl kF61_1 (opd_nm rfl)) <| .nil) [1, 8, 9] rfl [(2, 1), (3, 2)] rfl ⟨fun _ h => h, ⟨fun _ h => h, trivial⟩⟩ (fun a6 w6 st6 => ?_)
  refine st6.stF (sb := 3) 2 ((PV.root.box rfl).fld owFile.f1) rfl rfl rfl kT9 (by simp) (tp rfl) (tp rfl) rfl rfl (fun _ h => h) [1] rfl [2] rfl rfl (fun w7 st7 => ?_)
  refine wpList_nil ?_
  refine then_normal ?_
  refine wp_seq ?_
  refine wp_region_list ?_
  refine st7.seg 3 (
    sc rfl (op_field File.fld2 rfl kF86_2 (tp rfl)) <|
    sc rfl (op_load rfl kT9 (tp rfl)) <|
    sc rfl (xFa rfl kF61_2 (opd_nm rfl)) <| .nil) [1, 11, 12] rfl [(2, 1), (3, 2)] rfl ⟨fun _ h => h, ⟨fun _ h => h, trivial⟩⟩ (fun a8 w8 st8 => ?_)
  refine st8.stF (sb := 3) 2 ((PV.root.box rfl).fld owFile.f2) rfl rfl rfl kT9 (by simp) (tp rfl) (tp rfl) rfl rfl (fun _ h => h) [1] rfl [2] rfl rfl (fun w9 st9 => ?_)
  refine wpList_nil ?_
  refine then_normal ?_
  refine wp_seq ?_
  refine wp_region_list ?_
  refine st9.seg 3 (
    sc rfl (op_field File.fld3 rfl kF86_3 (tp rfl)) <|
    sc rfl (op_load rfl kT4 (tp rfl)) <|
    sc rfl (xFa rfl kF61_3 (opd_nm rfl)) <| .nil) [1, 14, 15] rfl [(2, 1), (3, 2)] rfl ⟨fun _ h => h, ⟨fun _ h => h, trivial⟩⟩ (fun a10 w10 st10 => ?_)
  refine st10.stF (sb := 3) 2 ((PV.root.box rfl).fld owFile.f3) rfl rfl rfl kT4 (by simp) (tp rfl) (tp rfl) rfl rfl (fun _ h => h) [1] rfl [2] rfl rfl (fun w11 st11 => ?_)
  refine wpList_nil ?_
  refine then_normal ?_
  refine wp_seq ?_
  refine wp_region_list ?_
  refine st11.seg 3 (
    sc rfl (op_field File.fld4 rfl kF86_4 (tp rfl)) <|
    sc rfl (op_load rfl kT3 (tp rfl)) <|
    sc rfl (xFa rfl kF61_4 (opd_nm rfl)) <| .nil) [1, 17, 18] rfl [(2, 1), (3, 2)] rfl ⟨fun _ h => h, ⟨fun _ h => h, trivial⟩⟩ (fun a12 w12 st12 => ?_)
  refine st12.stF (sb := 3) 2 ((PV.root.box rfl).fld owFile.f4) rfl rfl rfl kT3 (by simp) (tp rfl) (tp rfl) rfl rfl (fun _ h => h) [1] rfl [2] rfl rfl (fun w13 st13 => ?_)
  refine wpList_nil ?_
  refine then_normal ?_
  refine wp_seq ?_
  refine wp_region_list ?_
  refine st13.seg 2 (
    sc rfl (op_field File.fld5 rfl kF86_5 (tp rfl)) <|
    sc rfl (op_load rfl kT84 (tp rfl)) <| .nil) [20] rfl [(2, 1), (3, 2)] rfl ⟨fun _ h => h, ⟨fun _ h => h, trivial⟩⟩ (fun a14 w14 st14 => ?_)
  obtain ⟨v16, p16, h17⟩ := bs h
  refine st14.cN (l := [.tmp 20]) 0 rfl rfl kN142 (.cons (tp rfl) .nil) (laws_toStmtS_w p16).n (by simp) [] rfl [2, 3] rfl rfl (fun G15 M15 a15 w15 st15 => ?_)
  refine st15.seg 1 (
    sc rfl (xFa rfl kF61_5 (opd_nm rfl)) <| .nil) [22] rfl [(2, 1), (3, 2), (21, 0)] rfl ⟨fun _ h => h, ⟨fun _ h => h, ⟨fun _ h => h, trivial⟩⟩⟩ (fun a18 w18 st18 => ?_)
  refine st18.stO (sb := 3) (tv := 21) 2 0 ((PV.root.box rfl).fld owFile.f5) rfl rfl rfl kT59 (by simp) (by simp) (by decide) (tp rfl) rfl rfl rfl (fun _ h => h) (fun _ h => h) [] rfl [2] rfl rfl rfl (fun G19 w19 st19 => ?_)
  refine wpList_nil ?_
  refine then_normal ?_
  refine wp_seq ?_
  refine wp_region_list ?_
  refine st19.ldW (sb := 3) 2 rfl rfl kT61 rfl (by simp) (fun _ h => h) [] rfl [2] rfl rfl (fun a20 w20 st20 => ?_)
  refine st20.stO (sb := 2) (tv := 23) 1 2 (PV.root.box rfl) rfl rfl rfl kT61 (by simp) (by simp) (by decide) (opd_nm rfl) rfl rfl rfl (fun _ h => h) (fun _ h => h) [] rfl [] rfl rfl rfl (fun G21 w21 st21 => ?_)
  refine wpList_nil ?_
  refine then_normal ?_
  refine wp_ret ?_
  exact st21.rnC 1 rfl kT61 rfl (fun _ h => h) h17

def m_laws_toFileS_s0 (x0 : List File) (s11 : (List File) × Int) : Option (((List File) × Int) ⊕ (List File)) :=
if (cmpI .lss s11.2 (x0.length : Int)) = true then ((atI x0 s11.2).bind fun v17 =>
(m_laws_toFile v17).bind fun v21 =>
(atI s11.1 s11.2).bind fun _v23 =>
(i64 (s11.2 + (1 : Int))).bind fun v27 =>
some (.inl ((s11.1.set s11.2.toNat v21), v27)))
else (some (.inr s11.1))

def m_laws_toFileS (x0 : List File) : Option (List File) :=
(makeO 6 80 (x0.length : Int) zFile).bind fun v4 =>
Option.bind (α := (List File)) (loopM (fun s11 => m_laws_toFileS_s0 x0 s11) (v4, (0 : Int))) fun o8 =>
some o8

theorem laws_toFileS_w {x0 : List File} {r : List File} (h : m_laws_toFileS x0 = some r) : FnN Tryz.prog 58 [dt x0] (.ow (Ow.row 61 (owFile (Ow.row 64 (Ow.frz (α := Stmt))))) r) := by
  unfold m_laws_toFileS at h
  refine fnN (fn := Tryz.f58) 2 Tryz.func58 rfl (of_decide_eq_true rfl) rfl (fun M w0 a0 st0 => ?_)
  refine st0.sq0 (
    sc rfl (oA rfl (opd_nil (α := File))) <| .nil) [0] rfl (fun a1 w1 st1 => ?_)
  refine wp_seq ?_
  refine wp_region_list ?_
  refine st1.seg 2 (
    sc rfl (oM rfl (tp rfl)) <|
    sc rfl (op_lenL rfl kL22 (tp rfl)) <| .nil) [0, 6] rfl [] rfl trivial (fun a2 w2 st2 => ?_)
  obtain ⟨v4, p4, h5⟩ := bs h
  refine st2.makeW (ow := (owFile (Ow.row 64 (Ow.frz (α := Stmt))))) 0 rfl rfl kE28 kZ61 (owFile.z Ow.row_z) rfl (by simp) p4 [0] rfl [] rfl rfl (fun G3 M3 a3 w3 st3 => ?_)
  refine st3.nmR (s := 7) 0 rfl rfl (fun _ h => h) [] rfl (fun g6 A6 c6 hA6 st6 => ?_)
  refine st6.seg 1 (
    sc rfl (oA rfl (tp rfl)) <| .nil) [0] rfl [(3, 0)] rfl ⟨fun _ h => h, trivial⟩ (fun a7 w7 st7 => ?_)
  refine wpList_nil ?_
  refine then_normal ?_
  obtain ⟨o8, p8, k8⟩ := bs h5
  refine wp_seq_join (fun a w => ∃ M1 q8_0 q8_1, Sx (Frm.of w0) 23 M M1 [q8_0, q8_1] [] [(3, 0, dow (Ow.row 61 (owFile (Ow.row 64 (Ow.frz (α := Stmt))))) q8_0 o8)] a w) ?_ ?_
  ·
    refine st7.sq (
      sc rfl (oA rfl cI) <| .nil) [0, 4] rfl [(3, 0)] rfl ⟨fun _ h => h, trivial⟩ (fun a9 w9 st9 => ?_)
    refine wp_block ?_
    have st10 := st9.unm (s := 3) 0 rfl rfl (fun _ h => h) [] rfl
    refine loop_model p8 (fun s11 a w => ∃ M1 q11_0 q11_1, Sx (Frm.of w0) 23 M M1 [q11_0, q11_1] [(0, dt x0), (4, dt s11.2)] [(3, 0, dow (Ow.row 61 (owFile (Ow.row 64 (Ow.frz (α := Stmt))))) q11_0 s11.1)] a w) ⟨_, _, _, st10.sel [0, 4] rfl [(3, 0)] rfl ⟨fun _ h => h, trivial⟩⟩ ?_
    rintro s11 x11 a11 w11 ⟨M11, q11_0, q11_1, st11⟩ hs11 hx11
    have h12 : m_laws_toFileS_s0 x0 s11 = some x11 := hs11
    unfold m_laws_toFileS_s0 at h12
    refine wp_seq ?_
    refine st11.sq (
        sc rfl (oM rfl (tp rfl)) <|
        sc rfl (oM rfl (tp rfl)) <|
        sc rfl (op_lenL rfl kL22 (tp rfl)) <|
        sc rfl (oCI rfl (tp rfl) (tp rfl)) <| .nil) [0, 4, 11] rfl [(3, 0)] rfl ⟨fun _ h => h, trivial⟩ (fun a13 w13 st13 => ?_)
    refine st13.cs (c := 11) rfl h12 (fun c14 h14 => ?_) (fun c15 h15 => ?_)
    ·
      refine wp_skip ?_
      refine then_normal ?_
      refine wp_seq ?_
      refine wp_block ?_
      refine wp_region_list ?_
      obtain ⟨v17, p17, h18⟩ := bs h14
      refine st13.nmR (s := 3) 0 rfl rfl (fun _ h => h) [] rfl (fun g16 A16 c16 hA16 st16 => ?_)
      refine st16.seg 6 (
          sc rfl (oM rfl (tp rfl)) <|
          sc rfl (oM rfl (tp rfl)) <|
          sc rfl (oM rfl (tp rfl)) <|
          sc rfl (oM rfl (tp rfl)) <|
          sc rfl (xIdx rfl kS22 (tp rfl) (tp rfl) p17) <|
          sc rfl (op_load rfl kT86 (tp rfl)) <| .nil) [0, 4, 15, 19] rfl [(3, 0), (14, 0)] rfl ⟨fun _ h => h, ⟨fun _ h => h, trivial⟩⟩ (fun a19 w19 st19 => ?_)
      obtain ⟨v21, p21, h22⟩ := bs h18
      refine st19.cN (l := [.tmp 19]) 1 rfl rfl kN106 (.cons (tp rfl) .nil) (laws_toFile_w p21) (by simp) [0, 4, 15] rfl [3, 14] rfl rfl (fun G20 M20 a20 w20 st20 => ?_)
      obtain ⟨v23, p23, h24⟩ := bs h22
      refine st20.seg 1 (
          sc rfl (xIaN rfl kS28 rfl (tp rfl) hA16 p23) <| .nil) [0, 4, 21] rfl [(3, 0), (14, 0), (20, 1)] rfl ⟨fun _ h => h, ⟨fun _ h => h, ⟨fun _ h => h, trivial⟩⟩⟩ (fun a25 w25 st25 => ?_)
      refine st25.stO (sb := 3) (tv := 20) 0 1 (PV.root.row rfl hA16 p23) rfl rfl rfl kT61 (by simp) (by simp) (by decide) (tp rfl) rfl rfl rfl (fun _ h => h) (fun _ h => h) [0, 4] rfl [] rfl rfl rfl (fun G26 w26 st26 => ?_)
      refine wpList_nil ?_
      refine blk_normal ?_
      refine then_normal ?_
      obtain ⟨v27, p27, h28⟩ := bs h24
      refine st26.rg (
          sc rfl (oM rfl (tp rfl)) <|
          sc rfl (xAr rfl (tp rfl) cI p27) <|
          sc rfl (oA rfl (tp rfl)) <| .nil) [0, 4] rfl [(3, 0)] rfl ⟨fun _ h => h, trivial⟩ (fun a29 w29 st29 => ?_)
      have st30 := st29.unm (s := 3) 0 rfl rfl (fun _ h => h) [] rfl
      refine then_normal ?_
      exact ⟨_, (Option.some.inj h28).symm, ⟨_, _, _, st30.sel [0, 4] rfl [(3, 0)] rfl ⟨fun _ h => h, trivial⟩⟩⟩
    ·
      refine wp_exit (thn_exit (thn_exit (exit_here ?_)))
      refine then_normal ?_
      have h31 := lo h15 hx11
      obtain rfl := Option.some.inj h31
      exact ⟨_, _, _, st13.sel [] rfl [(3, 0)] rfl ⟨fun _ h => h, trivial⟩⟩
  · rintro a8 w8 ⟨M8, q8_0, q8_1, st8⟩
    have h32 := k8
    refine st8.nmR (s := 3) 0 rfl rfl (fun _ h => h) [] rfl (fun g33 A33 c33 hA33 st33 => ?_)
    refine st33.sq (
      sc rfl (oM rfl (tp rfl)) <|
      sc rfl (oA rfl (tp rfl)) <| .nil) [] rfl [(2, 0)] rfl ⟨fun _ h => h, trivial⟩ (fun a34 w34 st34 => ?_)
    refine wp_ret ?_
    have st35 := st34.unm (s := 2) 0 rfl rfl (fun _ h => h) [] rfl
    exact st35.rnO 0 rfl rfl (fun _ h => h) h32

def m_laws_toTree (x0 : Tree) : Option Tree :=
(m_laws_toFileS x0.files).bind fun v6 =>
some (⟨v6⟩ : Tree)

theorem laws_toTree_w {x0 : Tree} {r : Tree} (h : m_laws_toTree x0 = some r) : FnN Tryz.prog 15 [dt x0] (.ow (owTree (Ow.row 61 (owFile (Ow.row 64 (Ow.frz (α := Stmt)))))) r) := by
  unfold m_laws_toTree at h
  refine fnN (fn := Tryz.f15) 3 Tryz.func15 rfl (of_decide_eq_true rfl) rfl (fun M w0 a0 st0 => ?_)
  refine wp_seq ?_
  refine wp_region_list ?_
  refine st0.seg 1 (
    sc rfl (op_box rfl (tp rfl)) <| .nil) [1] rfl [] rfl trivial (fun a1 w1 st1 => ?_)
  refine st1.alcW (ow := (owTree (Ow.row 61 (owFile (Ow.row 64 (Ow.frz (α := Stmt))))))) 1 rfl rfl kZ30 (owTree.z Ow.row_z) (by simp) [1] rfl [] rfl rfl (fun b2 M2 a2 w2 st2 => ?_)
  refine wpList_nil ?_
  refine then_normal ?_
  refine wp_seq ?_
  refine wp_region_list ?_
  refine st2.alcW (ow := (owTree (Ow.row 61 (owFile (Ow.row 64 (Ow.frz (α := Stmt))))))) 2 rfl rfl kZ30 (owTree.z Ow.row_z) (by simp) [1] rfl [2] rfl rfl (fun b3 M3 a3 w3 st3 => ?_)
  refine wpList_nil ?_
  refine then_normal ?_
  refine wp_seq ?_
  refine wp_region_list ?_
  refine st3.seg 2 (
    sc rfl (op_field Tree.fld0 rfl kF24_0 (tp rfl)) <|
    sc rfl (op_load rfl kT22 (tp rfl)) <| .nil) [5] rfl [(2, 1), (3, 2)] rfl ⟨fun _ h => h, ⟨fun _ h => h, trivial⟩⟩ (fun a4 w4 st4 => ?_)
  obtain ⟨v6, p6, h7⟩ := bs h
  refine st4.cN (l := [.tmp 5]) 0 rfl rfl kN58 (.cons (tp rfl) .nil) (laws_toFileS_w p6) (by simp) [] rfl [2, 3] rfl rfl (fun G5 M5 a5 w5 st5 => ?_)
  refine st5.seg 1 (
    sc rfl (xFa rfl kF30_0 (opd_nm rfl)) <| .nil) [7] rfl [(2, 1), (3, 2), (6, 0)] rfl ⟨fun _ h => h, ⟨fun _ h => h, ⟨fun _ h => h, trivial⟩⟩⟩ (fun a8 w8 st8 => ?_)
  refine st8.stO (sb := 3) (tv := 6) 2 0 ((PV.root.box rfl).fld owTree.f0) rfl rfl rfl kT28 (by simp) (by simp) (by decide) (tp rfl) rfl rfl rfl (fun _ h => h) (fun _ h => h) [] rfl [2] rfl rfl rfl (fun G9 w9 st9 => ?_)
  refine wpList_nil ?_
  refine then_normal ?_
  refine wp_seq ?_
  refine wp_region_list ?_
  refine st9.ldW (sb := 3) 2 rfl rfl kT30 rfl (by simp) (fun _ h => h) [] rfl [2] rfl rfl (fun a10 w10 st10 => ?_)
  refine st10.stO (sb := 2) (tv := 8) 1 2 (PV.root.box rfl) rfl rfl rfl kT30 (by simp) (by simp) (by decide) (opd_nm rfl) rfl rfl rfl (fun _ h => h) (fun _ h => h) [] rfl [] rfl rfl rfl (fun G11 w11 st11 => ?_)
  refine wpList_nil ?_
  refine then_normal ?_
  refine wp_ret ?_
  exact st11.rnC 1 rfl kT30 rfl (fun _ h => h) h7

def m_laws_eqStringS_s0 (x0 : List Str) (x1 : List Str) (s8 : Int) : Option (Int ⊕ (Unit ⊕ Bool)) :=
if (cmpI .lss s8 (x0.length : Int)) = true then ((atI x0 s8).bind fun v13 =>
(atI x1 s8).bind fun v14 =>
if (decide (v13 ≠ v14)) = true then (some (.inr (.inr false)))
else ((i64 (s8 + (1 : Int))).bind fun v23 =>
some (.inl v23)))
else (some (.inr (.inl ())))

def m_laws_eqStringS (x0 : List Str) (x1 : List Str) : Option Bool :=
if (cmpI .neq (x0.length : Int) (x1.length : Int)) = true then (some false)
else (Option.bind (α := Unit ⊕ Bool) (loopM (fun s8 => m_laws_eqStringS_s0 x0 x1 s8) (0 : Int)) (Sum.elim (fun _b6 =>
some true) some))

theorem laws_eqStringS_w {x0 : List Str} {x1 : List Str} {r : Bool} (h : m_laws_eqStringS x0 x1 = some r) : Fn Tryz.prog 22 [dt x0, dt x1] (dt r) := by
  unfold m_laws_eqStringS at h
  refine fnx (fn := Tryz.f22) 0 Tryz.func22 rfl (of_decide_eq_true rfl) rfl (fun M w0 a0 st0 => ?_)
  refine st0.sq0 (
    sc rfl (oA rfl cB) <| .nil) [0, 1] rfl (fun a1 w1 st1 => ?_)
  refine wp_seq ?_
  refine st1.sq0 (
    sc rfl (oM rfl (tp rfl)) <|
    sc rfl (op_lenL rfl kL36 (tp rfl)) <|
    sc rfl (oM rfl (tp rfl)) <|
    sc rfl (op_lenL rfl kL36 (tp rfl)) <|
    sc rfl (oCI rfl (tp rfl) (tp rfl)) <| .nil) [0, 1, 10] rfl (fun a2 w2 st2 => ?_)
  refine st2.cs (c := 10) rfl h (fun c3 h3 => ?_) (fun c4 h4 => ?_)
  ·
    refine st2.sq0 (
      sc rfl (oA rfl cB) <| .nil) [4] rfl (fun a5 w5 st5 => ?_)
    refine wp_ret (thn_ret ?_)
    exact st5.ret rfl rfl h3
  ·
    refine wp_skip ?_
    refine then_normal ?_
    obtain ⟨o6, p6, k6⟩ := bs h4
    refine wp_seq_join (fun a w => ∃ b6, o6 = .inl b6 ∧ Sx (Frm.of w0) 26 M M [] [] [] a w) ?_ ?_
    ·
      refine st2.sq0 (
        sc rfl (oA rfl cI) <| .nil) [0, 1, 5] rfl (fun a7 w7 st7 => ?_)
      refine wp_block ?_
      refine loop_model p6 (fun s8 a w => Sx (Frm.of w0) 26 M M [] [(0, dt x0), (1, dt x1), (5, dt s8)] [] a w) (st7.sel0 [0, 1, 5] rfl) ?_
      rintro s8 x8 a8 w8 st8 hs8 hx8
      have h9 : m_laws_eqStringS_s0 x0 x1 s8 = some x8 := hs8
      unfold m_laws_eqStringS_s0 at h9
      refine wp_seq ?_
      refine st8.sq0 (
          sc rfl (oM rfl (tp rfl)) <|
          sc rfl (oM rfl (tp rfl)) <|
          sc rfl (op_lenL rfl kL36 (tp rfl)) <|
          sc rfl (oCI rfl (tp rfl) (tp rfl)) <| .nil) [0, 1, 5, 14] rfl (fun a10 w10 st10 => ?_)
      refine st10.cs (c := 14) rfl h9 (fun c11 h11 => ?_) (fun c12 h12 => ?_)
      ·
        refine wp_skip ?_
        refine then_normal ?_
        refine wp_seq ?_
        refine wp_block ?_
        refine wp_seq ?_
        obtain ⟨v13, p13, h15⟩ := bs h11
        obtain ⟨v14, p14, h16⟩ := bs h15
        refine st10.dr (D := [_, _, _, _, _, _, _, _, _]) Tryz_mixed [[], [], [0, 1], [0, 1, 2], [], [], [4, 5], [4, 5, 6], [0, 1, 2, 3, 4, 5, 6, 7]] [[(0, none)], [(5, none)], [(17, some 0), (18, some 1)], [(19, some 2)], [(1, none)], [(5, none)], [(21, some 4), (22, some 5)], [(23, some 6)], [(20, some 3), (24, some 7)]] (by decide +kernel) (
          rc rfl rfl (oM rfl (tp rfl)) <|
            rc rfl rfl (oM rfl (tp rfl)) <|
            rc rfl rfl (xIdx rfl kS36 (tp rfl) (tp rfl) p13) <|
            rc rfl rfl (op_load rfl kT9 (tp rfl)) <|
            rc rfl rfl (oM rfl (tp rfl)) <|
            rc rfl rfl (oM rfl (tp rfl)) <|
            rc rfl rfl (xIdx rfl kS36 (tp rfl) (tp rfl) p14) <|
            rc rfl rfl (op_load rfl kT9 (tp rfl)) <|
            rc rfl rfl (op_neS rfl (tp rfl) (tp rfl)) <| .nil) [0, 1, 5, 25] rfl [] rfl trivial (fun a17 w17 st17 => ?_)
        refine then_normal ?_
        refine st17.cs (c := 25) rfl h16 (fun c18 h18 => ?_) (fun c19 h19 => ?_)
        ·
          refine st17.sq0 (
              sc rfl (oA rfl cB) <| .nil) [4] rfl (fun a20 w20 st20 => ?_)
          refine wp_ret (blk_ret (thn_ret (thn_ret (blk_ret (thn_ret ?_)))))
          have h21 := lo h18 hx8
          have h22 := jo h21 k6
          exact st20.ret rfl rfl h22
        ·
          refine wp_skip ?_
          refine blk_normal ?_
          refine then_normal ?_
          obtain ⟨v23, p23, h24⟩ := bs h19
          refine st17.rg0 (
              sc rfl (oM rfl (tp rfl)) <|
              sc rfl (xAr rfl (tp rfl) cI p23) <|
              sc rfl (oA rfl (tp rfl)) <| .nil) [0, 1, 5] rfl (fun a25 w25 st25 => ?_)
          refine then_normal ?_
          exact ⟨_, (Option.some.inj h24).symm, st25.sel0 [0, 1, 5] rfl⟩
      ·
        refine wp_exit (thn_exit (thn_exit (exit_here ?_)))
        refine then_normal ?_
        have h26 := lo h12 hx8
        exact ⟨_, (Option.some.inj h26).symm, st10.sel0 [] rfl⟩
    · rintro a6 w6 ⟨b6, rfl, st6⟩
      have h27 := jn k6
      refine st6.sq0 (
        sc rfl (oA rfl cB) <| .nil) [4] rfl (fun a28 w28 st28 => ?_)
      refine wp_ret ?_
      exact st28.ret rfl rfl h27

def m_laws_markText_s0 (s8 : Int × Str) : Option ((Int × Str) ⊕ Str) :=
if (cmpI .gtr s8.1 (0 : Int)) = true then ((modO s8.1 (10 : Int)).bind fun v13 =>
(i64 ((48 : Int) + v13)).bind fun v14 =>
(catO (⟨([toB v14] : List UInt8)⟩ : Str) s8.2).bind fun v15 =>
(divO s8.1 (10 : Int)).bind fun v20 =>
some (.inl (v20, v15)))
else (some (.inr s8.2))

def m_laws_markText (x0 : Int) : Option Str :=
if (cmpI .leq x0 (0 : Int)) = true then (some (⟨[109, 48]⟩ : Str))
else (Option.bind (α := Str) (loopM (fun s8 => m_laws_markText_s0 s8) (x0, (⟨[]⟩ : Str))) fun o7 =>
(catO (⟨[109]⟩ : Str) o7).bind fun v25 =>
some v25)

theorem laws_markText_w {x0 : Int} {r : Str} (h : m_laws_markText x0 = some r) : Fn Tryz.prog 72 [dt x0] (dt r) := by
  unfold m_laws_markText at h
  refine fnx (fn := Tryz.f72) 0 Tryz.func72 rfl (of_decide_eq_true rfl) rfl (fun M w0 a0 st0 => ?_)
  refine st0.sq0 (
    sc rfl (oA rfl (opd_str (by decide))) <| .nil) [0] rfl (fun a1 w1 st1 => ?_)
  refine wp_seq ?_
  refine st1.sq0 (
    sc rfl (oM rfl (tp rfl)) <|
    sc rfl (oCI rfl (tp rfl) cI) <| .nil) [0, 5] rfl (fun a2 w2 st2 => ?_)
  refine st2.cs (c := 5) rfl h (fun c3 h3 => ?_) (fun c4 h4 => ?_)
  ·
    refine st2.sq0 (
      sc rfl (oA rfl (opd_str (by decide))) <| .nil) [2] rfl (fun a5 w5 st5 => ?_)
    refine wp_ret (thn_ret ?_)
    exact st5.ret rfl rfl h3
  ·
    refine wp_skip ?_
    refine then_normal ?_
    refine st2.sq0 (
      sc rfl (oA rfl (opd_str (by decide))) <| .nil) [0, 3] rfl (fun a6 w6 st6 => ?_)
    obtain ⟨o7, p7, k7⟩ := bs h4
    refine wp_seq_join (fun a w => Sx (Frm.of w0) 20 M M [] [(3, dt o7)] [] a w) ?_ ?_
    ·
      refine wp_block ?_
      refine loop_model p7 (fun s8 a w => Sx (Frm.of w0) 20 M M [] [(0, dt s8.1), (3, dt s8.2)] [] a w) (st6.sel0 [0, 3] rfl) ?_
      rintro s8 x8 a8 w8 st8 hs8 hx8
      have h9 : m_laws_markText_s0 s8 = some x8 := hs8
      unfold m_laws_markText_s0 at h9
      refine wp_seq ?_
      refine st8.sq0 (
          sc rfl (oM rfl (tp rfl)) <|
          sc rfl (oCI rfl (tp rfl) cI) <| .nil) [0, 3, 7] rfl (fun a10 w10 st10 => ?_)
      refine st10.cs (c := 7) rfl h9 (fun c11 h11 => ?_) (fun c12 h12 => ?_)
      ·
        refine wp_skip ?_
        refine then_normal ?_
        refine wp_block ?_
        obtain ⟨v13, p13, h16⟩ := bs h11
        obtain ⟨v14, p14, h17⟩ := bs h16
        obtain ⟨v15, p15, h18⟩ := bs h17
        refine st10.sq0 (
            sc rfl (oM rfl (tp rfl)) <|
            sc rfl (xMod rfl (tp rfl) cI p13) <|
            sc rfl (xAr rfl cI (tp rfl) p14) <|
            sc rfl (xCvB rfl kCv3_5 (tp rfl)) <|
            sc rfl (op_lit (opds := [.tmp 11]) rfl kS42 kY42 rfl rfl (by decide) (.cons (tp rfl) .nil)) <|
            sc rfl (xCvS rfl kCv42_9 (tp rfl)) <|
            sc rfl (oM rfl (tp rfl)) <|
            sc rfl (xCat rfl (tp rfl) (tp rfl) p15) <|
            sc rfl (oA rfl (tp rfl)) <| .nil) [0, 3] rfl (fun a19 w19 st19 => ?_)
        obtain ⟨v20, p20, h21⟩ := bs h18
        refine st19.rg0 (
            sc rfl (oM rfl (tp rfl)) <|
            sc rfl (xDiv rfl (tp rfl) cI p20) <|
            sc rfl (oA rfl (tp rfl)) <| .nil) [0, 3] rfl (fun a22 w22 st22 => ?_)
        refine blk_normal ?_
        refine then_normal ?_
        exact ⟨_, (Option.some.inj h21).symm, st22.sel0 [0, 3] rfl⟩
      ·
        refine wp_exit (thn_exit (thn_exit (exit_here ?_)))
        refine then_normal ?_
        have h23 := lo h12 hx8
        obtain rfl := Option.some.inj h23
        exact st10.sel0 [3] rfl
    · rintro a7 w7 st7
      have h24 := k7
      obtain ⟨v25, p25, h26⟩ := bs h24
      refine st7.sq0 (
        sc rfl (oM rfl (tp rfl)) <|
        sc rfl (xCat rfl (opd_str (by decide)) (tp rfl) p25) <|
        sc rfl (oA rfl (tp rfl)) <| .nil) [2] rfl (fun a27 w27 st27 => ?_)
      refine wp_ret ?_
      exact st27.ret rfl rfl h26

def m_laws_markStmtS_s0 (s4 : (List Stmt) × Int × Int) : Option (((List Stmt) × Int × Int) ⊕ ((List Stmt) × Int)) :=
if (cmpI .lss s4.2.2 (s4.1.length : Int)) = true then ((atI s4.1 s4.2.2).bind fun _v9 =>
(i64 (s4.2.1 + (1 : Int))).bind fun v13 =>
(m_laws_markText v13).bind fun v16 =>
(i64 (v13 + (1 : Int))).bind fun v20 =>
(i64 (v20 + (1 : Int))).bind fun v25 =>
(m_laws_markText v25).bind fun v28 =>
(i64 (v25 + (1 : Int))).bind fun v32 =>
(i64 (v32 + (1 : Int))).bind fun v37 =>
(i64 (s4.2.2 + (1 : Int))).bind fun v40 =>
some (.inl ((s4.1.set s4.2.2.toNat (⟨s4.2.1, v16, v20, v28, v32⟩ : Stmt)), v37, v40)))
else (some (.inr (s4.1, s4.2.1)))

def m_laws_markStmtS (x0 : List Stmt) (x1 : Int) : Option ((List Stmt) × Int) :=
Option.bind (α := (List Stmt) × Int) (loopM (fun s4 => m_laws_markStmtS_s0 s4) (x0, x1, (0 : Int))) fun o2 =>
some (o2.1, o2.2)

theorem laws_markStmtS_w {x0 : List Stmt} {x1 : Int} {r : (List Stmt) × Int} (h : m_laws_markStmtS x0 x1 = some r) : FnS Tryz.prog 114 (Ow.row 64 (Ow.frz (α := Stmt))) x0 [dt x1] r.1 (.frz (dt r.2)) := by
  unfold m_laws_markStmtS at h
  refine fnSR (fn := Tryz.f114) 0 1 Tryz.func114 rfl (of_decide_eq_true rfl) rfl (fun M G w0 g0 A0 c0 a0 hA0 st0 => ?_)
  refine st0.sq (
    sc rfl (oA rfl cI) <| .nil) [1] rfl [(0, 0)] rfl ⟨fun _ h => h, trivial⟩ (fun a1 w1 st1 => ?_)
  obtain ⟨o2, p2, k2⟩ := bs h
  refine wp_seq_join (fun a w => ∃ M1 q2_0, Sx (Frm.chg w0 G) 50 M M1 [q2_0] [(1, dt o2.2)] [(0, 0, dnm (Ow.row 64 (Ow.frz (α := Stmt))) q2_0 o2.1 (.slice A0 x0.length c0) [])] a w) ?_ ?_
  ·
    refine st1.sq (
      sc rfl (oA rfl cI) <| .nil) [1, 5] rfl [(0, 0)] rfl ⟨fun _ h => h, trivial⟩ (fun a3 w3 st3 => ?_)
    refine wp_block ?_
    refine loop_model p2 (fun s4 a w => ∃ M1 q4_0, Sx (Frm.chg w0 G) 50 M M1 [q4_0] [(1, dt s4.2.1), (5, dt s4.2.2)] [(0, 0, dnm (Ow.row 64 (Ow.frz (α := Stmt))) q4_0 s4.1 (.slice A0 x0.length c0) [])] a w) ⟨_, _, st3.sel [1, 5] rfl [(0, 0)] rfl ⟨fun _ h => h, trivial⟩⟩ ?_
    rintro s4 x4 a4 w4 ⟨M4, q4_0, st4⟩ hs4 hx4
    have h5 : m_laws_markStmtS_s0 s4 = some x4 := hs4
    unfold m_laws_markStmtS_s0 at h5
    refine wp_seq ?_
    refine st4.sq (
        sc rfl (oM rfl (tp rfl)) <|
        sc rfl (oM rfl (tp rfl)) <|
        sc rfl (xLeN rfl kL59 rfl) <|
        sc rfl (oCI rfl (tp rfl) (tp rfl)) <| .nil) [1, 5, 9] rfl [(0, 0)] rfl ⟨fun _ h => h, trivial⟩ (fun a6 w6 st6 => ?_)
    refine st6.cs (c := 9) rfl h5 (fun c7 h7 => ?_) (fun c8 h8 => ?_)
    ·
      refine wp_skip ?_
      refine then_normal ?_
      refine wp_seq ?_
      refine wp_block ?_
      refine wp_seq ?_
      refine wp_region_list ?_
      obtain ⟨v9, p9, h10⟩ := bs h7
      refine st6.seg 5 (
          sc rfl (oM rfl (tp rfl)) <|
          sc rfl (oM rfl (tp rfl)) <|
          sc rfl (oM rfl (tp rfl)) <|
          sc rfl (xIaN rfl kS59 rfl (tp rfl) hA0 p9) <|
          sc rfl (xFa rfl kF64_0 (tp rfl)) <| .nil) [1, 5, 14, 16] rfl [(0, 0)] rfl ⟨fun _ h => h, trivial⟩ (fun a11 w11 st11 => ?_)
      refine st11.stF (sb := 0) 0 ((PV.root.row rfl hA0 p9).fld Stmt.z0) rfl rfl rfl kT3 (by simp) (tp rfl) (tp rfl) rfl rfl (fun _ h => h) [1, 5] rfl [] rfl rfl (fun w12 st12 => ?_)
      refine wpList_nil ?_
      refine then_normal ?_
      obtain ⟨v13, p13, h14⟩ := bs h10
      refine st12.sq (
          sc rfl (oM rfl (tp rfl)) <|
          sc rfl (xAr rfl (tp rfl) cI p13) <|
          sc rfl (oA rfl (tp rfl)) <| .nil) [1, 5] rfl [(0, 0)] rfl ⟨fun _ h => h, trivial⟩ (fun a15 w15 st15 => ?_)
      refine wp_seq ?_
      refine wp_region_list ?_
      obtain ⟨v16, p16, h17⟩ := bs h14
      refine st15.seg 6 (
          sc rfl (oM rfl (tp rfl)) <|
          sc rfl (oM rfl (tp rfl)) <|
          sc rfl (oM rfl (tp rfl)) <|
          sc rfl (op_call (l := [.tmp 21]) rfl kN72 (.cons (tp rfl) .nil) (laws_markText_w p16)) <|
          sc rfl (xIaN rfl kS59 rfl (tp rfl) hA0 (atI_set p9)) <|
          sc rfl (xFa rfl kF64_1 (tp rfl)) <| .nil) [1, 5, 22, 24] rfl [(0, 0)] rfl ⟨fun _ h => h, trivial⟩ (fun a18 w18 st18 => ?_)
      refine st18.stF (sb := 0) 0 (((PV.root.row rfl hA0 (atI_set p9)).conv (upd' := fun z => (s4.1.set s4.2.2.toNat z)) (fun _ => by simp only [List.set_set])).fld Stmt.z1) rfl rfl rfl kT9 (by simp) (tp rfl) (tp rfl) rfl rfl (fun _ h => h) [1, 5] rfl [] rfl rfl (fun w19 st19 => ?_)
      refine wpList_nil ?_
      refine then_normal ?_
      obtain ⟨v20, p20, h21⟩ := bs h17
      refine st19.sq (
          sc rfl (oM rfl (tp rfl)) <|
          sc rfl (xAr rfl (tp rfl) cI p20) <|
          sc rfl (oA rfl (tp rfl)) <| .nil) [1, 5] rfl [(0, 0)] rfl ⟨fun _ h => h, trivial⟩ (fun a22 w22 st22 => ?_)
      refine wp_seq ?_
      refine wp_region_list ?_
      refine st22.seg 5 (
          sc rfl (oM rfl (tp rfl)) <|
          sc rfl (oM rfl (tp rfl)) <|
          sc rfl (oM rfl (tp rfl)) <|
          sc rfl (xIaN rfl kS59 rfl (tp rfl) hA0 (atI_set p9)) <|
          sc rfl (xFa rfl kF64_2 (tp rfl)) <| .nil) [1, 5, 29, 31] rfl [(0, 0)] rfl ⟨fun _ h => h, trivial⟩ (fun a23 w23 st23 => ?_)
      refine st23.stF (sb := 0) 0 (((PV.root.row rfl hA0 (atI_set p9)).conv (upd' := fun z => (s4.1.set s4.2.2.toNat z)) (fun _ => by simp only [List.set_set])).fld Stmt.z2) rfl rfl rfl kT3 (by simp) (tp rfl) (tp rfl) rfl rfl (fun _ h => h) [1, 5] rfl [] rfl rfl (fun w24 st24 => ?_)
      refine wpList_nil ?_
      refine then_normal ?_
      obtain ⟨v25, p25, h26⟩ := bs h21
      refine st24.sq (
          sc rfl (oM rfl (tp rfl)) <|
          sc rfl (xAr rfl (tp rfl) cI p25) <|
          sc rfl (oA rfl (tp rfl)) <| .nil) [1, 5] rfl [(0, 0)] rfl ⟨fun _ h => h, trivial⟩ (fun a27 w27 st27 => ?_)
      refine wp_seq ?_
      refine wp_region_list ?_
      obtain ⟨v28, p28, h29⟩ := bs h26
      refine st27.seg 6 (
          sc rfl (oM rfl (tp rfl)) <|
          sc rfl (oM rfl (tp rfl)) <|
          sc rfl (oM rfl (tp rfl)) <|
          sc rfl (op_call (l := [.tmp 36]) rfl kN72 (.cons (tp rfl) .nil) (laws_markText_w p28)) <|
          sc rfl (xIaN rfl kS59 rfl (tp rfl) hA0 (atI_set p9)) <|
          sc rfl (xFa rfl kF64_3 (tp rfl)) <| .nil) [1, 5, 37, 39] rfl [(0, 0)] rfl ⟨fun _ h => h, trivial⟩ (fun a30 w30 st30 => ?_)
      refine st30.stF (sb := 0) 0 (((PV.root.row rfl hA0 (atI_set p9)).conv (upd' := fun z => (s4.1.set s4.2.2.toNat z)) (fun _ => by simp only [List.set_set])).fld Stmt.z3) rfl rfl rfl kT9 (by simp) (tp rfl) (tp rfl) rfl rfl (fun _ h => h) [1, 5] rfl [] rfl rfl (fun w31 st31 => ?_)
      refine wpList_nil ?_
      refine then_normal ?_
      obtain ⟨v32, p32, h33⟩ := bs h29
      refine st31.sq (
          sc rfl (oM rfl (tp rfl)) <|
          sc rfl (xAr rfl (tp rfl) cI p32) <|
          sc rfl (oA rfl (tp rfl)) <| .nil) [1, 5] rfl [(0, 0)] rfl ⟨fun _ h => h, trivial⟩ (fun a34 w34 st34 => ?_)
      refine wp_seq ?_
      refine wp_region_list ?_
      refine st34.seg 5 (
          sc rfl (oM rfl (tp rfl)) <|
          sc rfl (oM rfl (tp rfl)) <|
          sc rfl (oM rfl (tp rfl)) <|
          sc rfl (xIaN rfl kS59 rfl (tp rfl) hA0 (atI_set p9)) <|
          sc rfl (xFa rfl kF64_4 (tp rfl)) <| .nil) [1, 5, 44, 46] rfl [(0, 0)] rfl ⟨fun _ h => h, trivial⟩ (fun a35 w35 st35 => ?_)
      refine st35.stF (sb := 0) 0 (((PV.root.row rfl hA0 (atI_set p9)).conv (upd' := fun z => (s4.1.set s4.2.2.toNat z)) (fun _ => by simp only [List.set_set])).fld Stmt.z4) rfl rfl rfl kT3 (by simp) (tp rfl) (tp rfl) rfl rfl (fun _ h => h) [1, 5] rfl [] rfl rfl (fun w36 st36 => ?_)
      refine wpList_nil ?_
      refine then_normal ?_
      obtain ⟨v37, p37, h38⟩ := bs h33
      refine st36.rg (
          sc rfl (oM rfl (tp rfl)) <|
          sc rfl (xAr rfl (tp rfl) cI p37) <|
          sc rfl (oA rfl (tp rfl)) <| .nil) [1, 5] rfl [(0, 0)] rfl ⟨fun _ h => h, trivial⟩ (fun a39 w39 st39 => ?_)
      refine blk_normal ?_
      refine then_normal ?_
      obtain ⟨v40, p40, h41⟩ := bs h38
      refine st39.rg (
          sc rfl (oM rfl (tp rfl)) <|
          sc rfl (xAr rfl (tp rfl) cI p40) <|
          sc rfl (oA rfl (tp rfl)) <| .nil) [1, 5] rfl [(0, 0)] rfl ⟨fun _ h => h, trivial⟩ (fun a42 w42 st42 => ?_)
      refine then_normal ?_
      exact ⟨_, (Option.some.inj h41).symm, ⟨_, _, st42.sel [1, 5] rfl [(0, 0)] rfl ⟨fun _ h => h, trivial⟩⟩⟩
    ·
      refine wp_exit (thn_exit (thn_exit (exit_here ?_)))
      refine then_normal ?_
      have h43 := lo h8 hx4
      obtain rfl := Option.some.inj h43
      exact ⟨_, _, st6.sel [1] rfl [(0, 0)] rfl ⟨fun _ h => h, trivial⟩⟩
  · rintro a2 w2 ⟨M2, q2_0, st2⟩
    have h44 := k2
    refine st2.sq (
      sc rfl (oM rfl (tp rfl)) <|
      sc rfl (oA rfl (tp rfl)) <| .nil) [4] rfl [(0, 0)] rfl ⟨fun _ h => h, trivial⟩ (fun a45 w45 st45 => ?_)
    refine wp_ret ?_
    exact st45.rsF (s := 0) 0 rfl rfl rfl (fun _ h => h) h44 flat_int

def m_laws_markFileS_s0 (s4 : (List File) × Int × Int) : Option (((List File) × Int × Int) ⊕ ((List File) × Int)) :=
if (cmpI .lss s4.2.2 (s4.1.length : Int)) = true then ((atI s4.1 s4.2.2).bind fun v9 =>
(i64 (s4.2.1 + (1 : Int))).bind fun v13 =>
(m_laws_markText v13).bind fun v16 =>
(i64 (v13 + (1 : Int))).bind fun v20 =>
(m_laws_markText v20).bind fun v23 =>
(i64 (v20 + (1 : Int))).bind fun v27 =>
(modO v27 (3 : Int)).bind fun v30 =>
(i64 (v27 + (1 : Int))).bind fun v34 =>
(i64 (v34 + (1 : Int))).bind fun v39 =>
(m_laws_markStmtS v9.body v39).bind fun v45 =>
(i64 (s4.2.2 + (1 : Int))).bind fun v48 =>
some (.inl ((s4.1.set s4.2.2.toNat (⟨s4.2.1, v16, v23, cmpI .eql v30 (0 : Int), v34, v45.1⟩ : File)), v45.2, v48)))
else (some (.inr (s4.1, s4.2.1)))

def m_laws_markFileS (x0 : List File) (x1 : Int) : Option ((List File) × Int) :=
Option.bind (α := (List File) × Int) (loopM (fun s4 => m_laws_markFileS_s0 s4) (x0, x1, (0 : Int))) fun o2 =>
some (o2.1, o2.2)

theorem laws_markFileS_w {x0 : List File} {x1 : Int} {r : (List File) × Int} (h : m_laws_markFileS x0 x1 = some r) : FnS Tryz.prog 71 (Ow.row 61 (owFile (Ow.row 64 (Ow.frz (α := Stmt))))) x0 [dt x1] r.1 (.frz (dt r.2)) := by
  unfold m_laws_markFileS at h
  refine fnSR (fn := Tryz.f71) 0 1 Tryz.func71 rfl (of_decide_eq_true rfl) rfl (fun M G w0 g0 A0 c0 a0 hA0 st0 => ?_)
  refine st0.sq (
    sc rfl (oA rfl cI) <| .nil) [1] rfl [(0, 0)] rfl ⟨fun _ h => h, trivial⟩ (fun a1 w1 st1 => ?_)
  obtain ⟨o2, p2, k2⟩ := bs h
  refine wp_seq_join (fun a w => ∃ M1 q2_0, Sx (Frm.chg w0 G) 59 M M1 [q2_0] [(1, dt o2.2)] [(0, 0, dnm (Ow.row 61 (owFile (Ow.row 64 (Ow.frz (α := Stmt))))) q2_0 o2.1 (.slice A0 x0.length c0) [])] a w) ?_ ?_
  ·
    refine st1.sq (
      sc rfl (oA rfl cI) <| .nil) [1, 5] rfl [(0, 0)] rfl ⟨fun _ h => h, trivial⟩ (fun a3 w3 st3 => ?_)
    refine wp_block ?_
    refine loop_model p2 (fun s4 a w => ∃ M1 q4_0, Sx (Frm.chg w0 G) 59 M M1 [q4_0] [(1, dt s4.2.1), (5, dt s4.2.2)] [(0, 0, dnm (Ow.row 61 (owFile (Ow.row 64 (Ow.frz (α := Stmt))))) q4_0 s4.1 (.slice A0 x0.length c0) [])] a w) ⟨_, _, st3.sel [1, 5] rfl [(0, 0)] rfl ⟨fun _ h => h, trivial⟩⟩ ?_
    rintro s4 x4 a4 w4 ⟨M4, q4_0, st4⟩ hs4 hx4
    have h5 : m_laws_markFileS_s0 s4 = some x4 := hs4
    unfold m_laws_markFileS_s0 at h5
    refine wp_seq ?_
    refine st4.sq (
        sc rfl (oM rfl (tp rfl)) <|
        sc rfl (oM rfl (tp rfl)) <|
        sc rfl (xLeN rfl kL28 rfl) <|
        sc rfl (oCI rfl (tp rfl) (tp rfl)) <| .nil) [1, 5, 9] rfl [(0, 0)] rfl ⟨fun _ h => h, trivial⟩ (fun a6 w6 st6 => ?_)
    refine st6.cs (c := 9) rfl h5 (fun c7 h7 => ?_) (fun c8 h8 => ?_)
    ·
      refine wp_skip ?_
      refine then_normal ?_
      refine wp_seq ?_
      refine wp_block ?_
      refine wp_seq ?_
      refine wp_region_list ?_
      obtain ⟨v9, p9, h10⟩ := bs h7
      refine st6.seg 5 (
          sc rfl (oM rfl (tp rfl)) <|
          sc rfl (oM rfl (tp rfl)) <|
          sc rfl (oM rfl (tp rfl)) <|
          sc rfl (xIaN rfl kS28 rfl (tp rfl) hA0 p9) <|
          sc rfl (xFa rfl kF61_0 (tp rfl)) <| .nil) [1, 5, 14, 16] rfl [(0, 0)] rfl ⟨fun _ h => h, trivial⟩ (fun a11 w11 st11 => ?_)
      refine st11.stF (sb := 0) 0 ((PV.root.row rfl hA0 p9).fld owFile.f0) rfl rfl rfl kT3 (by simp) (tp rfl) (tp rfl) rfl rfl (fun _ h => h) [1, 5] rfl [] rfl rfl (fun w12 st12 => ?_)
      refine wpList_nil ?_
      refine then_normal ?_
      obtain ⟨v13, p13, h14⟩ := bs h10
      refine st12.sq (
          sc rfl (oM rfl (tp rfl)) <|
          sc rfl (xAr rfl (tp rfl) cI p13) <|
          sc rfl (oA rfl (tp rfl)) <| .nil) [1, 5] rfl [(0, 0)] rfl ⟨fun _ h => h, trivial⟩ (fun a15 w15 st15 => ?_)
      refine wp_seq ?_
      refine wp_region_list ?_
      obtain ⟨v16, p16, h17⟩ := bs h14
      refine st15.seg 6 (
          sc rfl (oM rfl (tp rfl)) <|
          sc rfl (oM rfl (tp rfl)) <|
          sc rfl (oM rfl (tp rfl)) <|
          sc rfl (op_call (l := [.tmp 21]) rfl kN72 (.cons (tp rfl) .nil) (laws_markText_w p16)) <|
          sc rfl (xIaN rfl kS28 rfl (tp rfl) hA0 (atI_set p9)) <|
          sc rfl (xFa rfl kF61_1 (tp rfl)) <| .nil) [1, 5, 22, 24] rfl [(0, 0)] rfl ⟨fun _ h => h, trivial⟩ (fun a18 w18 st18 => ?_)
      refine st18.stF (sb := 0) 0 (((PV.root.row rfl hA0 (atI_set p9)).conv (upd' := fun z => (s4.1.set s4.2.2.toNat z)) (fun _ => by simp only [List.set_set])).fld owFile.f1) rfl rfl rfl kT9 (by simp) (tp rfl) (tp rfl) rfl rfl (fun _ h => h) [1, 5] rfl [] rfl rfl (fun w19 st19 => ?_)
      refine wpList_nil ?_
      refine then_normal ?_
      obtain ⟨v20, p20, h21⟩ := bs h17
      refine st19.sq (
          sc rfl (oM rfl (tp rfl)) <|
          sc rfl (xAr rfl (tp rfl) cI p20) <|
          sc rfl (oA rfl (tp rfl)) <| .nil) [1, 5] rfl [(0, 0)] rfl ⟨fun _ h => h, trivial⟩ (fun a22 w22 st22 => ?_)
      refine wp_seq ?_
      refine wp_region_list ?_
      obtain ⟨v23, p23, h24⟩ := bs h21
      refine st22.seg 6 (
          sc rfl (oM rfl (tp rfl)) <|
          sc rfl (oM rfl (tp rfl)) <|
          sc rfl (oM rfl (tp rfl)) <|
          sc rfl (op_call (l := [.tmp 29]) rfl kN72 (.cons (tp rfl) .nil) (laws_markText_w p23)) <|
          sc rfl (xIaN rfl kS28 rfl (tp rfl) hA0 (atI_set p9)) <|
          sc rfl (xFa rfl kF61_2 (tp rfl)) <| .nil) [1, 5, 30, 32] rfl [(0, 0)] rfl ⟨fun _ h => h, trivial⟩ (fun a25 w25 st25 => ?_)
      refine st25.stF (sb := 0) 0 (((PV.root.row rfl hA0 (atI_set p9)).conv (upd' := fun z => (s4.1.set s4.2.2.toNat z)) (fun _ => by simp only [List.set_set])).fld owFile.f2) rfl rfl rfl kT9 (by simp) (tp rfl) (tp rfl) rfl rfl (fun _ h => h) [1, 5] rfl [] rfl rfl (fun w26 st26 => ?_)
      refine wpList_nil ?_
      refine then_normal ?_
      obtain ⟨v27, p27, h28⟩ := bs h24
      refine st26.sq (
          sc rfl (oM rfl (tp rfl)) <|
          sc rfl (xAr rfl (tp rfl) cI p27) <|
          sc rfl (oA rfl (tp rfl)) <| .nil) [1, 5] rfl [(0, 0)] rfl ⟨fun _ h => h, trivial⟩ (fun a29 w29 st29 => ?_)
      refine wp_seq ?_
      refine wp_region_list ?_
      obtain ⟨v30, p30, h31⟩ := bs h28
      refine st29.seg 7 (
          sc rfl (oM rfl (tp rfl)) <|
          sc rfl (oM rfl (tp rfl)) <|
          sc rfl (oM rfl (tp rfl)) <|
          sc rfl (xMod rfl (tp rfl) cI p30) <|
          sc rfl (oCI rfl (tp rfl) cI) <|
          sc rfl (xIaN rfl kS28 rfl (tp rfl) hA0 (atI_set p9)) <|
          sc rfl (xFa rfl kF61_3 (tp rfl)) <| .nil) [1, 5, 39, 41] rfl [(0, 0)] rfl ⟨fun _ h => h, trivial⟩ (fun a32 w32 st32 => ?_)
      refine st32.stF (sb := 0) 0 (((PV.root.row rfl hA0 (atI_set p9)).conv (upd' := fun z => (s4.1.set s4.2.2.toNat z)) (fun _ => by simp only [List.set_set])).fld owFile.f3) rfl rfl rfl kT4 (by simp) (tp rfl) (tp rfl) rfl rfl (fun _ h => h) [1, 5] rfl [] rfl rfl (fun w33 st33 => ?_)
      refine wpList_nil ?_
      refine then_normal ?_
      obtain ⟨v34, p34, h35⟩ := bs h31
      refine st33.sq (
          sc rfl (oM rfl (tp rfl)) <|
          sc rfl (xAr rfl (tp rfl) cI p34) <|
          sc rfl (oA rfl (tp rfl)) <| .nil) [1, 5] rfl [(0, 0)] rfl ⟨fun _ h => h, trivial⟩ (fun a36 w36 st36 => ?_)
      refine wp_seq ?_
      refine wp_region_list ?_
      refine st36.seg 5 (
          sc rfl (oM rfl (tp rfl)) <|
          sc rfl (oM rfl (tp rfl)) <|
          sc rfl (oM rfl (tp rfl)) <|
          sc rfl (xIaN rfl kS28 rfl (tp rfl) hA0 (atI_set p9)) <|
          sc rfl (xFa rfl kF61_4 (tp rfl)) <| .nil) [1, 5, 46, 48] rfl [(0, 0)] rfl ⟨fun _ h => h, trivial⟩ (fun a37 w37 st37 => ?_)
      refine st37.stF (sb := 0) 0 (((PV.root.row rfl hA0 (atI_set p9)).conv (upd' := fun z => (s4.1.set s4.2.2.toNat z)) (fun _ => by simp only [List.set_set])).fld owFile.f4) rfl rfl rfl kT3 (by simp) (tp rfl) (tp rfl) rfl rfl (fun _ h => h) [1, 5] rfl [] rfl rfl (fun w38 st38 => ?_)
      refine wpList_nil ?_
      refine then_normal ?_
      obtain ⟨v39, p39, h40⟩ := bs h35
      refine st38.sq (
          sc rfl (oM rfl (tp rfl)) <|
          sc rfl (xAr rfl (tp rfl) cI p39) <|
          sc rfl (oA rfl (tp rfl)) <| .nil) [1, 5] rfl [(0, 0)] rfl ⟨fun _ h => h, trivial⟩ (fun a41 w41 st41 => ?_)
      refine wp_region_list ?_
      refine st41.hdR (s := 0) 0 true (fun _ => (((PV.root.row rfl hA0 (atI_set p9)).conv (upd' := fun z => (s4.1.set s4.2.2.toNat z)) (fun _ => by simp only [List.set_set])).fld owFile.f5)) rfl rfl (fun _ h => h) [] rfl (fun g42 A42 c42 hA42 st42 => ?_)
      refine st42.seg 6 (
          sc rfl (oM rfl (tp rfl)) <|
          sc rfl (oM rfl (tp rfl)) <|
          sc rfl (xIaN rfl kS28 rfl (tp rfl) hA0 (atI_set p9)) <|
          sc rfl (xFa rfl kF61_5 (tp rfl)) <|
          sc rfl (xLc (sb := 0) (.head _) rfl rfl rfl kT59 (tp rfl) rfl) <|
          sc rfl (oM rfl (tp rfl)) <| .nil) [1, 5, 55, 56] rfl [(0, 0)] rfl ⟨fun _ h => h, trivial⟩ (fun a43 w43 st43 => ?_)
      obtain ⟨v45, p45, h46⟩ := bs h40
      refine st43.cSF (l := [.tmp 56]) 0 (st43.bkH (sb := 0) (((PV.root.row rfl hA0 (atI_set p9)).conv (upd' := fun z => (s4.1.set s4.2.2.toNat z)) (fun _ => by simp only [List.set_set])).fld owFile.f5) (.head _) rfl (fits_one rfl rfl) rfl (fun _ h => h)) rfl rfl kN114 (st43.st.has 55 _ rfl) (by simp) (.cons (tp rfl) .nil) (laws_markStmtS_w p45) [1, 5] rfl [] rfl rfl (by decide) (fun G44 M44 a44 w44 st44 => ?_)
      refine st44.seg 1 (
          sc rfl (oA rfl (tp rfl)) <| .nil) [1, 5] rfl [(0, 0)] rfl ⟨fun _ h => h, trivial⟩ (fun a47 w47 st47 => ?_)
      refine wpList_nil ?_
      refine blk_normal ?_
      refine then_normal ?_
      obtain ⟨v48, p48, h49⟩ := bs h46
      refine st47.rg (
          sc rfl (oM rfl (tp rfl)) <|
          sc rfl (xAr rfl (tp rfl) cI p48) <|
          sc rfl (oA rfl (tp rfl)) <| .nil) [1, 5] rfl [(0, 0)] rfl ⟨fun _ h => h, trivial⟩ (fun a50 w50 st50 => ?_)
      refine then_normal ?_
      exact ⟨_, (Option.some.inj h49).symm, ⟨_, _, st50.sel [1, 5] rfl [(0, 0)] rfl ⟨fun _ h => h, trivial⟩⟩⟩
    ·
      refine wp_exit (thn_exit (thn_exit (exit_here ?_)))
      refine then_normal ?_
      have h51 := lo h8 hx4
      obtain rfl := Option.some.inj h51
      exact ⟨_, _, st6.sel [1] rfl [(0, 0)] rfl ⟨fun _ h => h, trivial⟩⟩
  · rintro a2 w2 ⟨M2, q2_0, st2⟩
    have h52 := k2
    refine st2.sq (
      sc rfl (oM rfl (tp rfl)) <|
      sc rfl (oA rfl (tp rfl)) <| .nil) [4] rfl [(0, 0)] rfl ⟨fun _ h => h, trivial⟩ (fun a53 w53 st53 => ?_)
    refine wp_ret ?_
    exact st53.rsF (s := 0) 0 rfl rfl rfl (fun _ h => h) h52 flat_int

def m_laws_markTree (x0 : Tree) (x1 : Int) : Option (Tree × Int) :=
(m_laws_markFileS x0.files x1).bind fun v4 =>
some ((⟨v4.1⟩ : Tree), v4.2)

theorem laws_markTree_w {x0 : Tree} {x1 : Int} {r : Tree × Int} (h : m_laws_markTree x0 x1 = some r) : FnS Tryz.prog 23 (owTree (Ow.row 61 (owFile (Ow.row 64 (Ow.frz (α := Stmt)))))) x0 [dt x1] r.1 (.frz (dt r.2)) := by
  unfold m_laws_markTree at h
  refine fnSV (fn := Tryz.f23) 0 1 Tryz.func23 rfl (of_decide_eq_true rfl) rfl (fun M G w0 u0 a0 st0 => ?_)
  refine st0.sq (
    sc rfl (xBoxN rfl rfl) <|
    sc rfl (oA rfl cI) <| .nil) [1, 2] rfl [(0, 0)] rfl ⟨fun _ h => h, trivial⟩ (fun a1 w1 st1 => ?_)
  refine wp_seq ?_
  refine wp_region_list ?_
  refine st1.seg 3 (
    sc rfl (xFldC rfl kF30_0 (tp rfl)) <|
    sc rfl (xLdC (sb := 0) (PV.root.fld owTree.f0) rfl rfl kT28 (tp rfl) rfl) <|
    sc rfl (oM rfl (tp rfl)) <| .nil) [1, 6, 7] rfl [(0, 0)] rfl ⟨fun _ h => h, trivial⟩ (fun a2 w2 st2 => ?_)
  obtain ⟨v4, p4, h5⟩ := bs h
  refine st2.cSF (l := [.tmp 7]) 0 (st2.bkV (sb := 0) (PV.root.fld owTree.f0) rfl rfl (fun _ h => h)) rfl rfl kN71 (st2.st.has 6 _ rfl) (by simp) (.cons (tp rfl) .nil) (laws_markFileS_w p4) [1] rfl [] rfl rfl (by decide) (fun G3 M3 a3 w3 st3 => ?_)
  refine st3.seg 1 (
    sc rfl (oA rfl (tp rfl)) <| .nil) [1] rfl [(0, 0)] rfl ⟨fun _ h => h, trivial⟩ (fun a6 w6 st6 => ?_)
  refine wpList_nil ?_
  refine then_normal ?_
  refine st6.sq (
    sc rfl (oM rfl (tp rfl)) <|
    sc rfl (oA rfl (tp rfl)) <| .nil) [4] rfl [(0, 0)] rfl ⟨fun _ h => h, trivial⟩ (fun a7 w7 st7 => ?_)
  refine wp_ret ?_
  exact st7.rsF (s := 0) 0 rfl rfl rfl (fun _ h => h) h5 flat_int

def m_laws_markIntS_s0 (s4 : (List Int) × Int × Int) : Option (((List Int) × Int × Int) ⊕ ((List Int) × Int)) :=
if (cmpI .lss s4.2.2 (s4.1.length : Int)) = true then ((atI s4.1 s4.2.2).bind fun _v9 =>
(i64 (s4.2.1 + (1 : Int))).bind fun v13 =>
(i64 (s4.2.2 + (1 : Int))).bind fun v16 =>
some (.inl ((s4.1.set s4.2.2.toNat s4.2.1), v13, v16)))
else (some (.inr (s4.1, s4.2.1)))

def m_laws_markIntS (x0 : List Int) (x1 : Int) : Option ((List Int) × Int) :=
Option.bind (α := (List Int) × Int) (loopM (fun s4 => m_laws_markIntS_s0 s4) (x0, x1, (0 : Int))) fun o2 =>
some (o2.1, o2.2)

theorem laws_markIntS_w {x0 : List Int} {x1 : Int} {r : (List Int) × Int} (h : m_laws_markIntS x0 x1 = some r) : FnS Tryz.prog 24 (Ow.row 3 (Ow.frz (α := Int))) x0 [dt x1] r.1 (.frz (dt r.2)) := by
  unfold m_laws_markIntS at h
  refine fnSR (fn := Tryz.f24) 0 1 Tryz.func24 rfl (of_decide_eq_true rfl) rfl (fun M G w0 g0 A0 c0 a0 hA0 st0 => ?_)
  refine st0.sq (
    sc rfl (oA rfl cI) <| .nil) [1] rfl [(0, 0)] rfl ⟨fun _ h => h, trivial⟩ (fun a1 w1 st1 => ?_)
  obtain ⟨o2, p2, k2⟩ := bs h
  refine wp_seq_join (fun a w => ∃ M1 q2_0, Sx (Frm.chg w0 G) 19 M M1 [q2_0] [(1, dt o2.2)] [(0, 0, dnm (Ow.row 3 (Ow.frz (α := Int))) q2_0 o2.1 (.slice A0 x0.length c0) [])] a w) ?_ ?_
  ·
    refine st1.sq (
      sc rfl (oA rfl cI) <| .nil) [1, 5] rfl [(0, 0)] rfl ⟨fun _ h => h, trivial⟩ (fun a3 w3 st3 => ?_)
    refine wp_block ?_
    refine loop_model p2 (fun s4 a w => ∃ M1 q4_0, Sx (Frm.chg w0 G) 19 M M1 [q4_0] [(1, dt s4.2.1), (5, dt s4.2.2)] [(0, 0, dnm (Ow.row 3 (Ow.frz (α := Int))) q4_0 s4.1 (.slice A0 x0.length c0) [])] a w) ⟨_, _, st3.sel [1, 5] rfl [(0, 0)] rfl ⟨fun _ h => h, trivial⟩⟩ ?_
    rintro s4 x4 a4 w4 ⟨M4, q4_0, st4⟩ hs4 hx4
    have h5 : m_laws_markIntS_s0 s4 = some x4 := hs4
    unfold m_laws_markIntS_s0 at h5
    refine wp_seq ?_
    refine st4.sq (
        sc rfl (oM rfl (tp rfl)) <|
        sc rfl (oM rfl (tp rfl)) <|
        sc rfl (xLeN rfl kL25 rfl) <|
        sc rfl (oCI rfl (tp rfl) (tp rfl)) <| .nil) [1, 5, 9] rfl [(0, 0)] rfl ⟨fun _ h => h, trivial⟩ (fun a6 w6 st6 => ?_)
    refine st6.cs (c := 9) rfl h5 (fun c7 h7 => ?_) (fun c8 h8 => ?_)
    ·
      refine wp_skip ?_
      refine then_normal ?_
      refine wp_seq ?_
      refine wp_block ?_
      refine wp_seq ?_
      refine wp_region_list ?_
      obtain ⟨v9, p9, h10⟩ := bs h7
      refine st6.seg 4 (
          sc rfl (oM rfl (tp rfl)) <|
          sc rfl (oM rfl (tp rfl)) <|
          sc rfl (oM rfl (tp rfl)) <|
          sc rfl (xIaN rfl kS25 rfl (tp rfl) hA0 p9) <| .nil) [1, 5, 14, 15] rfl [(0, 0)] rfl ⟨fun _ h => h, trivial⟩ (fun a11 w11 st11 => ?_)
      refine st11.stF (sb := 0) 0 (PV.root.row rfl hA0 p9) rfl rfl rfl kT3 (by simp) (tp rfl) (tp rfl) rfl rfl (fun _ h => h) [1, 5] rfl [] rfl rfl (fun w12 st12 => ?_)
      refine wpList_nil ?_
      refine then_normal ?_
      obtain ⟨v13, p13, h14⟩ := bs h10
      refine st12.rg (
          sc rfl (oM rfl (tp rfl)) <|
          sc rfl (xAr rfl (tp rfl) cI p13) <|
          sc rfl (oA rfl (tp rfl)) <| .nil) [1, 5] rfl [(0, 0)] rfl ⟨fun _ h => h, trivial⟩ (fun a15 w15 st15 => ?_)
      refine blk_normal ?_
      refine then_normal ?_
      obtain ⟨v16, p16, h17⟩ := bs h14
      refine st15.rg (
          sc rfl (oM rfl (tp rfl)) <|
          sc rfl (xAr rfl (tp rfl) cI p16) <|
          sc rfl (oA rfl (tp rfl)) <| .nil) [1, 5] rfl [(0, 0)] rfl ⟨fun _ h => h, trivial⟩ (fun a18 w18 st18 => ?_)
      refine then_normal ?_
      exact ⟨_, (Option.some.inj h17).symm, ⟨_, _, st18.sel [1, 5] rfl [(0, 0)] rfl ⟨fun _ h => h, trivial⟩⟩⟩
    ·
      refine wp_exit (thn_exit (thn_exit (exit_here ?_)))
      refine then_normal ?_
      have h19 := lo h8 hx4
      obtain rfl := Option.some.inj h19
      exact ⟨_, _, st6.sel [1] rfl [(0, 0)] rfl ⟨fun _ h => h, trivial⟩⟩
  · rintro a2 w2 ⟨M2, q2_0, st2⟩
    have h20 := k2
    refine st2.sq (
      sc rfl (oM rfl (tp rfl)) <|
      sc rfl (oA rfl (tp rfl)) <| .nil) [4] rfl [(0, 0)] rfl ⟨fun _ h => h, trivial⟩ (fun a21 w21 st21 => ?_)
    refine wp_ret ?_
    exact st21.rsF (s := 0) 0 rfl rfl rfl (fun _ h => h) h20 flat_int

def m_laws_markStringS_s0 (s4 : (List Str) × Int × Int) : Option (((List Str) × Int × Int) ⊕ ((List Str) × Int)) :=
if (cmpI .lss s4.2.2 (s4.1.length : Int)) = true then ((m_laws_markText s4.2.1).bind fun v9 =>
(atI s4.1 s4.2.2).bind fun _v10 =>
(i64 (s4.2.1 + (1 : Int))).bind fun v15 =>
(i64 (s4.2.2 + (1 : Int))).bind fun v18 =>
some (.inl ((s4.1.set s4.2.2.toNat v9), v15, v18)))
else (some (.inr (s4.1, s4.2.1)))

def m_laws_markStringS (x0 : List Str) (x1 : Int) : Option ((List Str) × Int) :=
Option.bind (α := (List Str) × Int) (loopM (fun s4 => m_laws_markStringS_s0 s4) (x0, x1, (0 : Int))) fun o2 =>
some (o2.1, o2.2)

theorem laws_markStringS_w {x0 : List Str} {x1 : Int} {r : (List Str) × Int} (h : m_laws_markStringS x0 x1 = some r) : FnS Tryz.prog 25 (Ow.row 9 (Ow.frz (α := Str))) x0 [dt x1] r.1 (.frz (dt r.2)) := by
  unfold m_laws_markStringS at h
  refine fnSR (fn := Tryz.f25) 0 1 Tryz.func25 rfl (of_decide_eq_true rfl) rfl (fun M G w0 g0 A0 c0 a0 hA0 st0 => ?_)
  refine st0.sq (
    sc rfl (oA rfl cI) <| .nil) [1] rfl [(0, 0)] rfl ⟨fun _ h => h, trivial⟩ (fun a1 w1 st1 => ?_)
  obtain ⟨o2, p2, k2⟩ := bs h
  refine wp_seq_join (fun a w => ∃ M1 q2_0, Sx (Frm.chg w0 G) 20 M M1 [q2_0] [(1, dt o2.2)] [(0, 0, dnm (Ow.row 9 (Ow.frz (α := Str))) q2_0 o2.1 (.slice A0 x0.length c0) [])] a w) ?_ ?_
  ·
    refine st1.sq (
      sc rfl (oA rfl cI) <| .nil) [1, 5] rfl [(0, 0)] rfl ⟨fun _ h => h, trivial⟩ (fun a3 w3 st3 => ?_)
    refine wp_block ?_
    refine loop_model p2 (fun s4 a w => ∃ M1 q4_0, Sx (Frm.chg w0 G) 20 M M1 [q4_0] [(1, dt s4.2.1), (5, dt s4.2.2)] [(0, 0, dnm (Ow.row 9 (Ow.frz (α := Str))) q4_0 s4.1 (.slice A0 x0.length c0) [])] a w) ⟨_, _, st3.sel [1, 5] rfl [(0, 0)] rfl ⟨fun _ h => h, trivial⟩⟩ ?_
    rintro s4 x4 a4 w4 ⟨M4, q4_0, st4⟩ hs4 hx4
    have h5 : m_laws_markStringS_s0 s4 = some x4 := hs4
    unfold m_laws_markStringS_s0 at h5
    refine wp_seq ?_
    refine st4.sq (
        sc rfl (oM rfl (tp rfl)) <|
        sc rfl (oM rfl (tp rfl)) <|
        sc rfl (xLeN rfl kL36 rfl) <|
        sc rfl (oCI rfl (tp rfl) (tp rfl)) <| .nil) [1, 5, 9] rfl [(0, 0)] rfl ⟨fun _ h => h, trivial⟩ (fun a6 w6 st6 => ?_)
    refine st6.cs (c := 9) rfl h5 (fun c7 h7 => ?_) (fun c8 h8 => ?_)
    ·
      refine wp_skip ?_
      refine then_normal ?_
      refine wp_seq ?_
      refine wp_block ?_
      refine wp_seq ?_
      refine wp_region_list ?_
      obtain ⟨v9, p9, h11⟩ := bs h7
      obtain ⟨v10, p10, h12⟩ := bs h11
      refine st6.seg 5 (
          sc rfl (oM rfl (tp rfl)) <|
          sc rfl (oM rfl (tp rfl)) <|
          sc rfl (oM rfl (tp rfl)) <|
          sc rfl (op_call (l := [.tmp 14]) rfl kN72 (.cons (tp rfl) .nil) (laws_markText_w p9)) <|
          sc rfl (xIaN rfl kS36 rfl (tp rfl) hA0 p10) <| .nil) [1, 5, 15, 16] rfl [(0, 0)] rfl ⟨fun _ h => h, trivial⟩ (fun a13 w13 st13 => ?_)
      refine st13.stF (sb := 0) 0 (PV.root.row rfl hA0 p10) rfl rfl rfl kT9 (by simp) (tp rfl) (tp rfl) rfl rfl (fun _ h => h) [1, 5] rfl [] rfl rfl (fun w14 st14 => ?_)
      refine wpList_nil ?_
      refine then_normal ?_
      obtain ⟨v15, p15, h16⟩ := bs h12
      refine st14.rg (
          sc rfl (oM rfl (tp rfl)) <|
          sc rfl (xAr rfl (tp rfl) cI p15) <|
          sc rfl (oA rfl (tp rfl)) <| .nil) [1, 5] rfl [(0, 0)] rfl ⟨fun _ h => h, trivial⟩ (fun a17 w17 st17 => ?_)
      refine blk_normal ?_
      refine then_normal ?_
      obtain ⟨v18, p18, h19⟩ := bs h16
      refine st17.rg (
          sc rfl (oM rfl (tp rfl)) <|
          sc rfl (xAr rfl (tp rfl) cI p18) <|
          sc rfl (oA rfl (tp rfl)) <| .nil) [1, 5] rfl [(0, 0)] rfl ⟨fun _ h => h, trivial⟩ (fun a20 w20 st20 => ?_)
      refine then_normal ?_
      exact ⟨_, (Option.some.inj h19).symm, ⟨_, _, st20.sel [1, 5] rfl [(0, 0)] rfl ⟨fun _ h => h, trivial⟩⟩⟩
    ·
      refine wp_exit (thn_exit (thn_exit (exit_here ?_)))
      refine then_normal ?_
      have h21 := lo h8 hx4
      obtain rfl := Option.some.inj h21
      exact ⟨_, _, st6.sel [1] rfl [(0, 0)] rfl ⟨fun _ h => h, trivial⟩⟩
  · rintro a2 w2 ⟨M2, q2_0, st2⟩
    have h22 := k2
    refine st2.sq (
      sc rfl (oM rfl (tp rfl)) <|
      sc rfl (oA rfl (tp rfl)) <| .nil) [4] rfl [(0, 0)] rfl ⟨fun _ h => h, trivial⟩ (fun a23 w23 st23 => ?_)
    refine wp_ret ?_
    exact st23.rsF (s := 0) 0 rfl rfl rfl (fun _ h => h) h22 flat_int

def m_laws_heldStringS_s0 (x0 : List Str) (s4 : Int × Int) : Option ((Int × Int) ⊕ (Int ⊕ Int)) :=
if (cmpI .lss s4.2 (x0.length : Int)) = true then ((atI x0 s4.2).bind fun v9 =>
(m_laws_markText s4.1).bind fun v10 =>
if (decide (v9 ≠ v10)) = true then (some (.inr (.inr (-1 : Int))))
else ((i64 (s4.1 + (1 : Int))).bind fun v19 =>
(i64 (s4.2 + (1 : Int))).bind fun v22 =>
some (.inl (v19, v22))))
else (some (.inr (.inl s4.1)))

def m_laws_heldStringS (x0 : List Str) (x1 : Int) : Option Int :=
Option.bind (α := Int ⊕ Int) (loopM (fun s4 => m_laws_heldStringS_s0 x0 s4) (x1, (0 : Int))) (Sum.elim (fun b2 =>
some b2) some)

theorem laws_heldStringS_w {x0 : List Str} {x1 : Int} {r : Int} (h : m_laws_heldStringS x0 x1 = some r) : Fn Tryz.prog 26 [dt x0, dt x1] (dt r) := by
  unfold m_laws_heldStringS at h
  refine fnx (fn := Tryz.f26) 0 Tryz.func26 rfl (of_decide_eq_true rfl) rfl (fun M w0 a0 st0 => ?_)
  refine st0.sq0 (
    sc rfl (oA rfl cI) <| .nil) [0, 1] rfl (fun a1 w1 st1 => ?_)
  obtain ⟨o2, p2, k2⟩ := bs h
  refine wp_seq_join (fun a w => ∃ b2, o2 = .inl b2 ∧ Sx (Frm.of w0) 22 M M [] [(1, dt b2)] [] a w) ?_ ?_
  ·
    refine st1.sq0 (
      sc rfl (oA rfl cI) <| .nil) [0, 1, 5] rfl (fun a3 w3 st3 => ?_)
    refine wp_block ?_
    refine loop_model p2 (fun s4 a w => Sx (Frm.of w0) 22 M M [] [(0, dt x0), (1, dt s4.1), (5, dt s4.2)] [] a w) (st3.sel0 [0, 1, 5] rfl) ?_
    rintro s4 x4 a4 w4 st4 hs4 hx4
    have h5 : m_laws_heldStringS_s0 x0 s4 = some x4 := hs4
    unfold m_laws_heldStringS_s0 at h5
    refine wp_seq ?_
    refine st4.sq0 (
        sc rfl (oM rfl (tp rfl)) <|
        sc rfl (oM rfl (tp rfl)) <|
        sc rfl (op_lenL rfl kL36 (tp rfl)) <|
        sc rfl (oCI rfl (tp rfl) (tp rfl)) <| .nil) [0, 1, 5, 9] rfl (fun a6 w6 st6 => ?_)
    refine st6.cs (c := 9) rfl h5 (fun c7 h7 => ?_) (fun c8 h8 => ?_)
    ·
      refine wp_skip ?_
      refine then_normal ?_
      refine wp_seq ?_
      refine wp_block ?_
      refine wp_seq ?_
      refine wp_seq ?_
      obtain ⟨v9, p9, h11⟩ := bs h7
      obtain ⟨v10, p10, h12⟩ := bs h11
      refine st6.dr (D := [_, _, _, _, _, _, _]) Tryz_mixed [[], [], [0, 1], [0, 1, 2], [], [4], [0, 1, 2, 3, 4, 5]] [[(0, none)], [(5, none)], [(12, some 0), (13, some 1)], [(14, some 2)], [(1, none)], [(16, some 4)], [(15, some 3), (17, some 5)]] (by decide +kernel) (
        rc rfl rfl (oM rfl (tp rfl)) <|
          rc rfl rfl (oM rfl (tp rfl)) <|
          rc rfl rfl (xIdx rfl kS36 (tp rfl) (tp rfl) p9) <|
          rc rfl rfl (op_load rfl kT9 (tp rfl)) <|
          rc rfl rfl (oM rfl (tp rfl)) <|
          rc rfl rfl (op_call (l := [.tmp 16]) rfl kN72 (.cons (tp rfl) .nil) (laws_markText_w p10)) <|
          rc rfl rfl (op_neS rfl (tp rfl) (tp rfl)) <| .nil) [0, 1, 5, 18] rfl [] rfl trivial (fun a13 w13 st13 => ?_)
      refine then_normal ?_
      refine st13.cs (c := 18) rfl h12 (fun c14 h14 => ?_) (fun c15 h15 => ?_)
      ·
        refine st13.sq0 (
            sc rfl (oA rfl cI) <| .nil) [4] rfl (fun a16 w16 st16 => ?_)
        refine wp_ret (thn_ret (blk_ret (thn_ret (thn_ret (blk_ret (thn_ret ?_))))))
        have h17 := lo h14 hx4
        have h18 := jo h17 k2
        exact st16.ret rfl rfl h18
      ·
        refine wp_skip ?_
        refine then_normal ?_
        obtain ⟨v19, p19, h20⟩ := bs h15
        refine st13.rg0 (
            sc rfl (oM rfl (tp rfl)) <|
            sc rfl (xAr rfl (tp rfl) cI p19) <|
            sc rfl (oA rfl (tp rfl)) <| .nil) [0, 1, 5] rfl (fun a21 w21 st21 => ?_)
        refine blk_normal ?_
        refine then_normal ?_
        obtain ⟨v22, p22, h23⟩ := bs h20
        refine st21.rg0 (
            sc rfl (oM rfl (tp rfl)) <|
            sc rfl (xAr rfl (tp rfl) cI p22) <|
            sc rfl (oA rfl (tp rfl)) <| .nil) [0, 1, 5] rfl (fun a24 w24 st24 => ?_)
        refine then_normal ?_
        exact ⟨_, (Option.some.inj h23).symm, st24.sel0 [0, 1, 5] rfl⟩
    ·
      refine wp_exit (thn_exit (thn_exit (exit_here ?_)))
      refine then_normal ?_
      have h25 := lo h8 hx4
      exact ⟨_, (Option.some.inj h25).symm, st6.sel0 [1] rfl⟩
  · rintro a2 w2 ⟨b2, rfl, st2⟩
    have h26 := jn k2
    refine st2.sq0 (
      sc rfl (oM rfl (tp rfl)) <|
      sc rfl (oA rfl (tp rfl)) <| .nil) [4] rfl (fun a27 w27 st27 => ?_)
    refine wp_ret ?_
    exact st27.ret rfl rfl h26

end Go.Proofs.YtbnibckkfknpkaaGreatDoor
