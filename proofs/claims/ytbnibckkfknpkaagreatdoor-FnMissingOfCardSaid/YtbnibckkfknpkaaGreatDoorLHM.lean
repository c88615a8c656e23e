/-
  Models for what was walked before.
  Models of functions, and their walks: printed by a program of our own (wip/mxo.py).
-/
import Derived.Test.YtbnibckkfknpkaaGreatDoorLDM
import Derived.Test.YtbnibckkfknpkaaGreatDoorLFM
import Derived.Test.YtbnibckkfknpkaaGreatDoorLGM
import Derived.Test.YtbnibckkfknpkaaGreatDoorLCM
namespace Go.Proofs.YtbnibckkfknpkaaGreatDoor
open Go.RowKit
instance (s : Str) : Decidable (mid s) := by unfold mid; infer_instance
instance (s : Stmt) : Decidable (smStmt s) := by unfold smStmt; infer_instance
instance (f : File) : Decidable (smFile f) := by unfold smFile; infer_instance
instance (t : Tree) : Decidable (smTree t) := by unfold smTree; infer_instance
def m_spec_validTree (t : Tree) : Option Bool := if smTree t then some (validTree t) else none
theorem spec_validTree_w {t : Tree} {r : Bool} (h : m_spec_validTree t = some r) : Fn Tryz.prog 51 [dt t] (dt r) := by
 unfold m_spec_validTree at h
 split at h
 ·
  rename_i hc
  injection h with h
  subst h
  exact spec_validTree_ok _ hc
 ·
  cases h
def m_spec_validName (s : Str) : Option Bool := if mid s then some (validName s) else none
theorem spec_validName_w {s : Str} {r : Bool} (h : m_spec_validName s = some r) : Fn Tryz.prog 53 [dt s] (dt r) := by
 unfold m_spec_validName at h
 split at h
 ·
  rename_i hc
  injection h with h
  subst h
  exact spec_validName_ok _ hc
 ·
  cases h
def m_spec_insertText (l : List Str) (s : Str) : Option (List Str) := if l.length <= 8796093022200 then some (insertT l s) else none
theorem spec_insertText_w {l : List Str} {s : Str} {r : List Str} (h : m_spec_insertText l s = some r) : FnTake Tryz.prog 65 9 l [dt s] r := by
 unfold m_spec_insertText at h
 split at h
 ·
  rename_i hc
  injection h with h
  subst h
  exact spec_insertText_ok _ _ hc
 ·
  cases h
def m_spec_validPath (p : List Int) : Option Bool := if True then some (validPath p) else none
theorem spec_validPath_w {p : List Int} {r : Bool} (h : m_spec_validPath p = some r) : Fn Tryz.prog 52 [dt p] (dt r) := by
 unfold m_spec_validPath at h
 split at h
 ·
  rename_i hc
  injection h with h
  subst h
  exact spec_validPath_ok _
 ·
  cases h
def m_spec_find (t : Tree) (p : List Int) (s : Str) : Option Spec := if p.length <= 1099511627776 /\ mid s then some (find t.files p s) else none
theorem spec_find_w {t : Tree} {p : List Int} {s : Str} {r : Spec} (h : m_spec_find t p s = some r) : Fn Tryz.prog 56 [dt t, dt p, dt s] (dt r) := by
 unfold m_spec_find at h
 split at h
 ·
  rename_i hc
  injection h with h
  subst h
  exact spec_find_ok _ _ _ hc.1 hc.2
 ·
  cases h
def m_spec_parent (s : Str) : Option Str := if mid s then some (parent s) else none
theorem spec_parent_w {s : Str} {r : Str} (h : m_spec_parent s = some r) : Fn Tryz.prog 64 [dt s] (dt r) := by
 unfold m_spec_parent at h
 split at h
 ·
  rename_i hc
  injection h with h
  subst h
  exact spec_parent_ok _ hc
 ·
  cases h
def m_spec_above (s : Str) : Option (List Str) := if mid s then some (above s) else none
theorem spec_above_w {s : Str} {r : List Str} (h : m_spec_above s = some r) : Fn Tryz.prog 55 [dt s] (dt r) := by
 unfold m_spec_above at h
 split at h
 ·
  rename_i hc
  injection h with h
  subst h
  exact spec_above_ok _ hc
 ·
  cases h
def m_spec_child (p : Str) (s : Str) : Option Str := if p.l.length + s.l.length <= 1152921504606846976 then some (child p s) else none
theorem spec_child_w {p : Str} {s : Str} {r : Str} (h : m_spec_child p s = some r) : Fn Tryz.prog 139 [dt p, dt s] (dt r) := by
 unfold m_spec_child at h
 split at h
 ·
  rename_i hc
  injection h with h
  subst h
  exact spec_child_ok _ _ hc
 ·
  cases h
def m_spec_moduleName (f : File) : Option Str := if smFile f then some (moduleName f) else none
theorem spec_moduleName_w {f : File} {r : Str} (h : m_spec_moduleName f = some r) : Fn Tryz.prog 110 [dt f] (dt r) := by
 unfold m_spec_moduleName at h
 split at h
 ·
  rename_i hc
  injection h with h
  subst h
  exact spec_moduleName_ok _ hc
 ·
  cases h
def m_spec_fileAt (t : Tree) (f : File) : Option Int := if True then some (fileAt t.files f) else none
theorem spec_fileAt_w {t : Tree} {f : File} {r : Int} (h : m_spec_fileAt t f = some r) : Fn Tryz.prog 98 [dt t, dt f] (dt r) := by
 unfold m_spec_fileAt at h
 split at h
 ·
  rename_i hc
  injection h with h
  subst h
  exact spec_fileAt_ok _ _
 ·
  cases h
end Go.Proofs.YtbnibckkfknpkaaGreatDoor
namespace Go.Proofs.YtbnibckkfknpkaaGreatDoor
open Go.RowKit
set_option maxRecDepth 10000
set_option maxHeartbeats 1600000
theorem kE59 : elB Tryz.prog 59 64 5 56 = true := by kernel_rfl
theorem kE28 : elB Tryz.prog 28 61 6 80 = true := by kernel_rfl
theorem kZ30 : zeroCells Tryz.prog 30 = some zcTree := by kernel_rfl
theorem kS42 : slB Tryz.prog 42 1 = true := by kernel_rfl
end Go.Proofs.YtbnibckkfknpkaaGreatDoor
namespace Go.Proofs.YtbnibckkfknpkaaGreatDoor
open Go.RowKit
set_option maxRecDepth 10000
set_option maxHeartbeats 1600000
theorem kN55 : fnB Tryz.prog 55 = true := by kernel_rfl
theorem kN93 : fnB Tryz.prog 93 = true := by kernel_rfl
theorem kN64 : fnB Tryz.prog 64 = true := by kernel_rfl
theorem kN200 : fnB Tryz.prog 200 = true := by kernel_rfl
theorem kN139 : fnB Tryz.prog 139 = true := by kernel_rfl
theorem kF56_1 : fldB Tryz.prog 56 1 1 = true := by kernel_rfl
theorem kN186 : fnB Tryz.prog 186 = true := by kernel_rfl
theorem kN53 : fnB Tryz.prog 53 = true := by kernel_rfl
theorem kN56 : fnB Tryz.prog 56 = true := by kernel_rfl
theorem kN158 : fnB Tryz.prog 158 = true := by kernel_rfl
theorem kN133 : fnB Tryz.prog 133 = true := by kernel_rfl
theorem kN132 : fnB Tryz.prog 132 = true := by kernel_rfl
theorem kN94 : fnB Tryz.prog 94 = true := by kernel_rfl
theorem kN51 : fnB Tryz.prog 51 = true := by kernel_rfl
theorem kN52 : fnB Tryz.prog 52 = true := by kernel_rfl
theorem kN54 : fnB Tryz.prog 54 = true := by kernel_rfl
theorem kN90 : fnB Tryz.prog 90 = true := by kernel_rfl
theorem kN78 : fnB Tryz.prog 78 = true := by kernel_rfl
theorem kN68 : fnB Tryz.prog 68 = true := by kernel_rfl
theorem kF106_1 : fldB Tryz.prog 106 1 1 = true := by kernel_rfl
theorem kF106_0 : fldB Tryz.prog 106 0 0 = true := by kernel_rfl
theorem kB106 : bldB Tryz.prog 106 [1, 1, 1, 1, 1, 1] = true := by kernel_rfl
theorem kC106 : zeroOf Tryz.prog 106 [1, 1, 1, 1, 1, 1] = some zpGMod := by kernel_rfl
theorem kZ106 : zeroCells Tryz.prog 106 = some zcGMod := by kernel_rfl
theorem kT106 : tyB Tryz.prog 106 true 6 = true := by kernel_rfl
theorem kN120 : fnB Tryz.prog 120 = true := by kernel_rfl
theorem kN119 : fnB Tryz.prog 119 = true := by kernel_rfl
theorem kN77 : fnB Tryz.prog 77 = true := by kernel_rfl
theorem kN33 : fnB Tryz.prog 33 = true := by kernel_rfl
theorem kN60 : fnB Tryz.prog 60 = true := by kernel_rfl
theorem kN76 : fnB Tryz.prog 76 = true := by kernel_rfl
theorem kN75 : fnB Tryz.prog 75 = true := by kernel_rfl
theorem kN28 : fnB Tryz.prog 28 = true := by kernel_rfl
theorem kN65 : fnB Tryz.prog 65 = true := by kernel_rfl
def m_spec_full_s1 (v12 : List Str) (s17 : (List Str) × Int) : Option (((List Str) × Int) ⊕ (List Str)) :=
if (cmpI .lss s17.2 (v12.length : Int)) = true then (Option.bind (α := (List Str)) ((atI v12 s17.2).bind fun v23 =>
(m_spec_hasText s17.1 v23).bind fun v24 =>
if (!v24) = true then ((atI v12 s17.2).bind fun v30 =>
(appO 16 s17.1 ([v30] : List Str)).bind fun v35 =>
some v35)
else (some s17.1)) fun o22 =>
(i64 (s17.2 + (1 : Int))).bind fun v39 =>
some (.inl (o22, v39)))
else (some (.inr s17.1))
def m_spec_full_s0 (x0 : List Str) (s5 : (List Str) × Int) : Option (((List Str) × Int) ⊕ (List Str)) :=
if (cmpI .lss s5.2 (x0.length : Int)) = true then (Option.bind (α := (List Str)) ((atI x0 s5.2).bind fun v11 =>
(m_spec_above v11).bind fun v12 =>
loopM (fun s17 => m_spec_full_s1 v12 s17) (s5.1, (0 : Int))) fun o10 =>
(i64 (s5.2 + (1 : Int))).bind fun v44 =>
some (.inl (o10, v44)))
else (some (.inr s5.1))
def m_spec_full (x0 : List Str) : Option (List Str) :=
Option.bind (α := (List Str)) (loopM (fun s5 => m_spec_full_s0 x0 s5) ([], (0 : Int))) fun o3 =>
some o3
theorem spec_full_w {x0 : List Str} {r : List Str} (h : m_spec_full x0 = some r) : FnOwn Tryz.prog 132 [dt x0] 9 r := by
 unfold m_spec_full at h
 refine fnxO (fn := Tryz.f132) 1 Tryz.func132 rfl (of_decide_eq_true rfl) rfl (fun M w0 a0 st0 => ?_)
 refine st0.sq0 (
  sc rfl (oA rfl (opd_nilTip (α := Str) (e := 9))) <| .nil) [0] rfl (fun a1 w1 st1 => ?_)
 refine st1.sq (
  sc rfl (op_lit0 (α := Str) (e := 9) rfl kS36) <|
  sc rfl (oA rfl (tp rfl)) <| .nil) [0] rfl [(3, 0)] rfl ⟨iE, trivial⟩ (fun a2 w2 st2 => ?_)
 obtain ⟨o3, p3, k3⟩ := bs h
 refine wp_seq_join (fun a w => ∃ M1 q3_0, Sx (Frm.of w0) 40 M M1 [oneB q3_0] [] [(3, 0, dtip q3_0 9 o3)] a w) ?_ ?_
 ·
  refine st2.sq (
   sc rfl (oA rfl cI) <| .nil) [0, 4] rfl [(3, 0)] rfl ⟨iE, trivial⟩ (fun a4 w4 st4 => ?_)
  refine wp_block ?_
  refine loop_model p3 (fun s5 a w => ∃ M1 q5_0, Sx (Frm.of w0) 40 M M1 [oneB q5_0] [(0, dt x0), (4, dt s5.2)] [(3, 0, dtip q5_0 9 s5.1)] a w) ⟨_, _, st4.sel [0, 4] rfl [(3, 0)] rfl ⟨iE, trivial⟩⟩ ?_
  rintro s5 x5 a5 w5 ⟨M5, q5_0, st5⟩ hs5 hx5
  have h6 : m_spec_full_s0 x0 s5 = some x5 := hs5
  unfold m_spec_full_s0 at h6
  refine wp_seq ?_
  refine st5.sq (
    sc rfl (oM rfl (tp rfl)) <|
    sc rfl (oM rfl (tp rfl)) <|
    sc rfl (op_lenL rfl kL36 (tp rfl)) <|
    sc rfl (oCI rfl (tp rfl) (tp rfl)) <| .nil) [0, 4, 11] rfl [(3, 0)] rfl ⟨iI, trivial⟩ (fun a7 w7 st7 => ?_)
  refine st7.cs (c := 11) rfl h6 (fun c8 h8 => ?_) (fun c9 h9 => ?_)
  ·
   refine wp_skip (then_normal ?_)
   obtain ⟨o10, p10, k10⟩ := bs h8
   refine wp_seq_join (fun a w => ∃ M1 q10_0, Sx (Frm.of w0) 40 M M1 [oneB q10_0] [(0, dt x0), (4, dt s5.2)] [(3, 0, dtip q10_0 9 o10)] a w) ?_ ?_
   ·
    refine wp_block ?_
    obtain ⟨v11, p11, h13⟩ := bs p10
    obtain ⟨v12, p12, h14⟩ := bs h13
    refine st7.sq (
      sc rfl (oM rfl (tp rfl)) <|
      sc rfl (oM rfl (tp rfl)) <|
      sc rfl (xIdx rfl kS36 (tp rfl) (tp rfl) p11) <|
      sc rfl (op_load rfl kT9 (tp rfl)) <|
      sc rfl (op_call (l := [.tmp 17]) rfl kN55 (.cons (tp rfl) .nil) (spec_above_w p12)) <|
      sc rfl (oA rfl (tp rfl)) <| .nil) [0, 4, 5] rfl [(3, 0)] rfl ⟨iI, trivial⟩ (fun a15 w15 st15 => ?_)
    refine st15.sq (
      sc rfl (oA rfl cI) <| .nil) [0, 4, 5, 6] rfl [(3, 0)] rfl ⟨iI, trivial⟩ (fun a16 w16 st16 => ?_)
    refine wp_block ?_
    refine loop_model h14 (fun s17 a w => ∃ M1 q17_0, Sx (Frm.of w0) 40 M M1 [oneB q17_0] [(0, dt x0), (4, dt s5.2), (5, dt v12), (6, dt s17.2)] [(3, 0, dtip q17_0 9 s17.1)] a w) ⟨_, _, st16.sel [0, 4, 5, 6] rfl [(3, 0)] rfl ⟨iI, trivial⟩⟩ ?_
    rintro s17 x17 a17 w17 ⟨M17, q17_0, st17⟩ hs17 hx17
    have h18 : m_spec_full_s1 v12 s17 = some x17 := hs17
    unfold m_spec_full_s1 at h18
    refine wp_seq ?_
    refine st17.sq (
       sc rfl (oM rfl (tp rfl)) <|
       sc rfl (oM rfl (tp rfl)) <|
       sc rfl (op_lenL rfl kL36 (tp rfl)) <|
       sc rfl (oCI rfl (tp rfl) (tp rfl)) <| .nil) [0, 4, 5, 6, 22] rfl [(3, 0)] rfl ⟨iI, trivial⟩ (fun a19 w19 st19 => ?_)
    refine st19.cs (c := 22) rfl h18 (fun c20 h20 => ?_) (fun c21 h21 => ?_)
    ·
     refine wp_skip (then_normal ?_)
     obtain ⟨o22, p22, k22⟩ := bs h20
     refine wp_seq_join (fun a w => ∃ M1 q22_0, Sx (Frm.of w0) 40 M M1 [oneB q22_0] [(0, dt x0), (4, dt s5.2), (5, dt v12), (6, dt s17.2)] [(3, 0, dtip q22_0 9 o22)] a w) ?_ ?_
     ·
      refine wp_block ?_
      obtain ⟨v23, p23, h25⟩ := bs p22
      obtain ⟨v24, p24, h26⟩ := bs h25
      refine st19.sq (
         sc rfl (oM rfl (tp rfl)) <|
         sc rfl (oM rfl (tp rfl)) <|
         sc rfl (oM rfl (tp rfl)) <|
         sc rfl (xIdx rfl kS36 (tp rfl) (tp rfl) p23) <|
         sc rfl (op_load rfl kT9 (tp rfl)) <|
         sc rfl (op_callT (l := [.tmp 25, .tmp 29]) st19.ob.sub rfl kN93 (.cons (borrow st19.ob 0 rfl (tp rfl)) (.cons (opd2_of st19.ob.sub (tp rfl)) .nil)) (spec_hasText_w p24) flat_bool) <|
         sc rfl (op_not rfl (tp rfl)) <| .nil) [0, 4, 5, 6, 31] rfl [(3, 0)] rfl ⟨iI, trivial⟩ (fun a27 w27 st27 => ?_)
      refine st27.cs (c := 31) rfl h26 (fun c28 h28 => ?_) (fun c29 h29 => ?_)
      ·
       refine wp_region_list ?_
       obtain ⟨v30, p30, h31⟩ := bs h28
       refine st27.seg 6 (
          sc rfl (oM rfl (tp rfl)) <|
          sc rfl (oM rfl (tp rfl)) <|
          sc rfl (oM rfl (tp rfl)) <|
          sc rfl (xIdx rfl kS36 (tp rfl) (tp rfl) p30) <|
          sc rfl (op_load rfl kT9 (tp rfl)) <|
          sc rfl (op_lit (opds := [.tmp 36]) rfl kS36 kY36 rfl rfl (by decide) (.cons (tp rfl) .nil)) <| .nil) [0, 4, 5, 6, 37] rfl [(3, 0), (32, 0)] rfl ⟨iI, ⟨iI, trivial⟩⟩ (fun a32 w32 st32 => ?_)
       obtain ⟨v35, p35, h36⟩ := bs h31
       refine st32.app 0 rfl rfl kE36 rfl rfl rfl row_dt p35 [0, 4, 5, 6] rfl [] rfl rfl (fun g34 M34 a34 w34 st34 => ?_)
       refine st34.seg 1 (
          sc rfl (oA rfl (tp rfl)) <| .nil) [0, 4, 5, 6] rfl [(3, 0)] rfl ⟨iI, trivial⟩ (fun a37 w37 st37 => ?_)
       refine wpList_nil (blk_normal (then_normal ?_))
       obtain rfl := Option.some.inj h36
       exact ⟨_, _, st37.sel [0, 4, 5, 6] rfl [(3, 0)] rfl ⟨iI, trivial⟩⟩
      ·
       refine wp_skip (blk_normal (then_normal ?_))
       obtain rfl := Option.some.inj h29
       exact ⟨_, _, st27.sel [0, 4, 5, 6] rfl [(3, 0)] rfl ⟨iI, trivial⟩⟩
     ·
      rintro a22 w22 ⟨M22, q22_0, st22⟩
      have h38 := k22
      obtain ⟨v39, p39, h40⟩ := bs h38
      refine st22.rg (
         sc rfl (oM rfl (tp rfl)) <|
         sc rfl (xAr rfl (tp rfl) cI p39) <|
         sc rfl (oA rfl (tp rfl)) <| .nil) [0, 4, 5, 6] rfl [(3, 0)] rfl ⟨iI, trivial⟩ (fun a41 w41 st41 => ?_)
      refine then_normal ?_
      exact ⟨_, (Option.some.inj h40).symm, ⟨_, _, st41.sel [0, 4, 5, 6] rfl [(3, 0)] rfl ⟨iI, trivial⟩⟩⟩
    ·
     refine wp_exit (thn_exit (thn_exit (exit_here ?_)))
     refine blk_normal (then_normal ?_)
     have h42 := lo h21 hx17
     obtain rfl := Option.some.inj h42
     exact ⟨_, _, st19.sel [0, 4] rfl [(3, 0)] rfl ⟨iI, trivial⟩⟩
   ·
    rintro a10 w10 ⟨M10, q10_0, st10⟩
    have h43 := k10
    obtain ⟨v44, p44, h45⟩ := bs h43
    refine st10.rg (
      sc rfl (oM rfl (tp rfl)) <|
      sc rfl (xAr rfl (tp rfl) cI p44) <|
      sc rfl (oA rfl (tp rfl)) <| .nil) [0, 4] rfl [(3, 0)] rfl ⟨iI, trivial⟩ (fun a46 w46 st46 => ?_)
    refine then_normal ?_
    exact ⟨_, (Option.some.inj h45).symm, ⟨_, _, st46.sel [0, 4] rfl [(3, 0)] rfl ⟨iI, trivial⟩⟩⟩
  ·
   refine wp_exit (thn_exit (thn_exit (exit_here ?_)))
   refine then_normal ?_
   have h47 := lo h9 hx5
   obtain rfl := Option.some.inj h47
   exact ⟨_, _, st7.sel [] rfl [(3, 0)] rfl ⟨iI, trivial⟩⟩
 ·
  rintro a3 w3 ⟨M3, q3_0, st3⟩
  have h48 := k3
  refine st3.sq (
   sc rfl (oM rfl (tp rfl)) <|
   sc rfl (oA rfl (tp rfl)) <| .nil) [] rfl [(2, 0)] rfl ⟨iI, trivial⟩ (fun a49 w49 st49 => ?_)
  refine wp_ret ?_
  exact st49.ret_own 0 rfl rfl iI h48
def m_spec_base_s0 (x1 : Int) (s4 : Str × Int) : Option ((Str × Int) ⊕ (Str ⊕ (Str × Bool))) :=
if (cmpI .lss s4.2 x1) = true then (if (decide (s4.1 = (⟨[]⟩ : Str))) = true then (some (.inr (.inr ((⟨[]⟩ : Str), false))))
else ((m_spec_parent s4.1).bind fun v15 =>
(i64 (s4.2 + (1 : Int))).bind fun v18 =>
some (.inl (v15, v18))))
else (some (.inr (.inl s4.1)))
def m_spec_base (x0 : Str) (x1 : Int) : Option (Str × Bool) :=
Option.bind (α := Str ⊕ (Str × Bool)) (loopM (fun s4 => m_spec_base_s0 x1 s4) (x0, (1 : Int))) (Sum.elim (fun b2 =>
some (b2, decide (b2 ≠ (⟨[]⟩ : Str)))) some)
theorem spec_base_w {x0 : Str} {x1 : Int} {r : Str × Bool} (h : m_spec_base x0 x1 = some r) : Fn Tryz.prog 200 [dt x0, dt x1] (dtup [dt r.1, dt r.2]) := by
 unfold m_spec_base at h
 refine fnx (fn := Tryz.f200) 0 Tryz.func200 rfl (of_decide_eq_true rfl) rfl (fun M w0 a0 st0 => ?_)
 refine st0.sq0 (
  sc rfl (oA rfl (opd_str (by decide))) <|
  sc rfl (oA rfl cB) <| .nil) [0, 1] rfl (fun a1 w1 st1 => ?_)
 obtain ⟨o2, p2, k2⟩ := bs h
 refine wp_seq_join (fun a w => ∃ b2, o2 = .inl b2 /\ Sx (Frm.of w0) 19 M M [] [(0, dt b2)] [] a w) ?_ ?_
 ·
  refine st1.sq0 (
   sc rfl (oA rfl cI) <| .nil) [0, 1, 6] rfl (fun a3 w3 st3 => ?_)
  refine wp_block ?_
  refine loop_model p2 (fun s4 a w => Sx (Frm.of w0) 19 M M [] [(0, dt s4.1), (1, dt x1), (6, dt s4.2)] [] a w) (st3.sel0 [0, 1, 6] rfl) ?_
  rintro s4 x4 a4 w4 st4 hs4 hx4
  have h5 : m_spec_base_s0 x1 s4 = some x4 := hs4
  unfold m_spec_base_s0 at h5
  refine wp_seq ?_
  refine st4.sq0 (
    sc rfl (oM rfl (tp rfl)) <|
    sc rfl (oM rfl (tp rfl)) <|
    sc rfl (oCI rfl (tp rfl) (tp rfl)) <| .nil) [0, 1, 6, 9] rfl (fun a6 w6 st6 => ?_)
  refine st6.cs (c := 9) rfl h5 (fun c7 h7 => ?_) (fun c8 h8 => ?_)
  ·
   refine wp_skip (then_normal (wp_seq (wp_block (wp_seq ?_))))
   refine st6.sq0 (
     sc rfl (oM rfl (tp rfl)) <|
     sc rfl (op_eqS rfl (tp rfl) (opd_str (by decide))) <| .nil) [0, 1, 6, 13] rfl (fun a9 w9 st9 => ?_)
   refine st9.cs (c := 13) rfl h7 (fun c10 h10 => ?_) (fun c11 h11 => ?_)
   ·
    refine st9.sq0 (
      sc rfl (oA rfl (opd_str (by decide))) <|
      sc rfl (oA rfl cB) <| .nil) [4, 5] rfl (fun a12 w12 st12 => ?_)
    refine wp_ret (thn_ret (blk_ret (thn_ret (thn_ret (blk_ret (thn_ret ?_))))))
    have h13 := lo h10 hx4
    have h14 := jo h13 k2
    obtain rfl := Option.some.inj h14
    exact st12.ret2 rfl (st12.frozen (t := 4) rfl) (st12.frozen (t := 5) rfl) ⟨rfl, rfl⟩ rfl
   ·
    refine wp_skip (then_normal ?_)
    obtain ⟨v15, p15, h16⟩ := bs h11
    refine st9.rg0 (
      sc rfl (oM rfl (tp rfl)) <|
      sc rfl (op_call (l := [.tmp 14]) rfl kN64 (.cons (tp rfl) .nil) (spec_parent_w p15)) <|
      sc rfl (oA rfl (tp rfl)) <| .nil) [0, 1, 6] rfl (fun a17 w17 st17 => ?_)
    refine blk_normal (then_normal ?_)
    obtain ⟨v18, p18, h19⟩ := bs h16
    refine st17.rg0 (
      sc rfl (oM rfl (tp rfl)) <|
      sc rfl (xAr rfl (tp rfl) cI p18) <|
      sc rfl (oA rfl (tp rfl)) <| .nil) [0, 1, 6] rfl (fun a20 w20 st20 => ?_)
    refine then_normal ?_
    exact ⟨_, (Option.some.inj h19).symm, st20.sel0 [0, 1, 6] rfl⟩
  ·
   refine wp_exit (thn_exit (thn_exit (exit_here ?_)))
   refine then_normal ?_
   have h21 := lo h8 hx4
   exact ⟨_, (Option.some.inj h21).symm, st6.sel0 [0] rfl⟩
 ·
  rintro a2 w2 ⟨b2, rfl, st2⟩
  have h22 := jn k2
  refine st2.sq0 (
   sc rfl (oM rfl (tp rfl)) <|
   sc rfl (oM rfl (tp rfl)) <|
   sc rfl (op_neS rfl (tp rfl) (opd_str (by decide))) <|
   sc rfl (oA rfl (tp rfl)) <|
   sc rfl (oA rfl (tp rfl)) <| .nil) [4, 5] rfl (fun a23 w23 st23 => ?_)
  refine wp_ret ?_
  obtain rfl := Option.some.inj h22
  exact st23.ret2 rfl (st23.frozen (t := 4) rfl) (st23.frozen (t := 5) rfl) ⟨rfl, rfl⟩ rfl
def m_spec_resolve (x0 : Str) (x1 : Int) (x2 : Str) : Option Str :=
if (cmpI .eql x1 (0 : Int)) = true then (some x2)
else ((m_spec_base x0 x1).bind fun v6 =>
if (!v6.2) = true then (some (⟨[]⟩ : Str))
else (if (decide (x2 = (⟨[]⟩ : Str))) = true then (some v6.1)
else ((m_spec_child v6.1 x2).bind fun v17 =>
some v17)))
theorem spec_resolve_w {x0 : Str} {x1 : Int} {x2 : Str} {r : Str} (h : m_spec_resolve x0 x1 x2 = some r) : Fn Tryz.prog 186 [dt x0, dt x1, dt x2] (dt r) := by
 unfold m_spec_resolve at h
 refine fnx (fn := Tryz.f186) 0 Tryz.func186 rfl (of_decide_eq_true rfl) rfl (fun M w0 a0 st0 => ?_)
 refine st0.sq0 (
  sc rfl (oA rfl (opd_str (by decide))) <| .nil) [0, 1, 2] rfl (fun a1 w1 st1 => ?_)
 refine wp_seq ?_
 refine st1.sq0 (
  sc rfl (oM rfl (tp rfl)) <|
  sc rfl (oCI rfl (tp rfl) cI) <| .nil) [0, 1, 2, 10] rfl (fun a2 w2 st2 => ?_)
 refine st2.cs (c := 10) rfl h (fun c3 h3 => ?_) (fun c4 h4 => ?_)
 ·
  refine st2.sq0 (
   sc rfl (oM rfl (tp rfl)) <|
   sc rfl (oA rfl (tp rfl)) <| .nil) [6] rfl (fun a5 w5 st5 => ?_)
  refine wp_ret (thn_ret ?_)
  exact st5.ret rfl rfl h3
 ·
  refine wp_skip (then_normal ?_)
  obtain ⟨v6, p6, h7⟩ := bs h4
  refine st2.sq0 (
   sc rfl (oM rfl (tp rfl)) <|
   sc rfl (oM rfl (tp rfl)) <|
   sc rfl (op_call (l := [.tmp 13, .tmp 14]) rfl kN200 (.cons (tp rfl) (.cons (tp rfl) .nil)) (spec_base_w p6)) <|
   sc rfl (oM rfl (tp rfl)) <|
   sc rfl (xExt (i := 0) rfl (tp rfl) rfl) <|
   sc rfl (xExt (i := 1) rfl (tp rfl) rfl) <|
   sc rfl (oA rfl (tp rfl)) <|
   sc rfl (oA rfl (tp rfl)) <| .nil) [2, 7, 8] rfl (fun a8 w8 st8 => ?_)
  refine wp_seq ?_
  refine st8.sq0 (
   sc rfl (oM rfl (tp rfl)) <|
   sc rfl (op_not rfl (tp rfl)) <| .nil) [2, 7, 19] rfl (fun a9 w9 st9 => ?_)
  refine st9.cs (c := 19) rfl h7 (fun c10 h10 => ?_) (fun c11 h11 => ?_)
  ·
   refine st9.sq0 (
    sc rfl (oA rfl (opd_str (by decide))) <| .nil) [6] rfl (fun a12 w12 st12 => ?_)
   refine wp_ret (thn_ret ?_)
   exact st12.ret rfl rfl h10
  ·
   refine wp_skip (then_normal (wp_seq ?_))
   refine st9.sq0 (
    sc rfl (oM rfl (tp rfl)) <|
    sc rfl (op_eqS rfl (tp rfl) (opd_str (by decide))) <| .nil) [2, 7, 21] rfl (fun a13 w13 st13 => ?_)
   refine st13.cs (c := 21) rfl h11 (fun c14 h14 => ?_) (fun c15 h15 => ?_)
   ·
    refine st13.sq0 (
     sc rfl (oM rfl (tp rfl)) <|
     sc rfl (oA rfl (tp rfl)) <| .nil) [6] rfl (fun a16 w16 st16 => ?_)
    refine wp_ret (thn_ret ?_)
    exact st16.ret rfl rfl h14
   ·
    refine wp_skip (then_normal ?_)
    obtain ⟨v17, p17, h18⟩ := bs h15
    refine st13.sq0 (
     sc rfl (oM rfl (tp rfl)) <|
     sc rfl (oM rfl (tp rfl)) <|
     sc rfl (op_call (l := [.tmp 23, .tmp 24]) rfl kN139 (.cons (tp rfl) (.cons (tp rfl) .nil)) (spec_child_w p17)) <|
     sc rfl (oA rfl (tp rfl)) <| .nil) [6] rfl (fun a19 w19 st19 => ?_)
    refine wp_ret ?_
    exact st19.ret rfl rfl h18
def m_spec_needs_s0 (o8 : Str) (v16 : File) (s21 : (List Str) × Int) : Option (((List Str) × Int) ⊕ (List Str)) :=
if (cmpI .lss s21.2 (v16.body.length : Int)) = true then (Option.bind (α := (List Str)) (Option.bind (α := Str) ((atI v16.body s21.2).bind fun v29 =>
Option.bind (α := Bool) (if (cmpI .eql v29.kind (0 : Int)) = true then (some (cmpI .eql v29.kind (0 : Int)))
else (some (cmpI .eql v29.kind (2 : Int)))) fun o32 =>
if o32 = true then ((atI v16.body s21.2).bind fun v40 =>
some v40.module)
else (if (cmpI .eql v29.kind (1 : Int)) = true then ((atI v16.body s21.2).bind fun v46 =>
(atI v16.body s21.2).bind fun v47 =>
(m_spec_resolve o8 v46.level v47.module).bind fun v48 =>
some v48)
else (some (⟨[]⟩ : Str)))) fun o28 =>
(m_spec_validName o28).bind fun v54 =>
(gO (v54 == true) (m_spec_hasText s21.1 o28)).bind fun v55 =>
if (v54 && (!v55)) = true then ((appO 16 s21.1 ([o28] : List Str)).bind fun v64 =>
some v64)
else (some s21.1)) fun o26 =>
(i64 (s21.2 + (1 : Int))).bind fun v68 =>
some (.inl (o26, v68)))
else (some (.inr s21.1))
def m_spec_needs (x0 : Tree) (_x1 : List Int) (x2 : Str) (x3 : Spec) : Option (List Str) :=
if (cmpI .lss x3.file (0 : Int)) = true then (some [])
else (Option.bind (α := Str) (if (cmpI .eql x3.kind (1 : Int)) = true then ((m_spec_parent x2).bind fun v12 =>
some v12)
else (some x2)) fun o8 =>
(atI x0.files x3.file).bind fun v16 =>
Option.bind (α := (List Str)) (loopM (fun s21 => m_spec_needs_s0 o8 v16 s21) ([], (0 : Int))) fun o19 =>
some o19)
theorem spec_needs_w {x0 : Tree} {x1 : List Int} {x2 : Str} {x3 : Spec} {r : List Str} (h : m_spec_needs x0 x1 x2 x3 = some r) : FnOwn Tryz.prog 158 [dt x0, dt x1, dt x2, dt x3] 9 r := by
 unfold m_spec_needs at h
 refine fnxO (fn := Tryz.f158) 1 Tryz.func158 rfl (of_decide_eq_true rfl) rfl (fun M w0 a0 st0 => ?_)
 refine st0.sq0 (
  sc rfl (op_box rfl (tp rfl)) <|
  sc rfl (op_box rfl (tp rfl)) <|
  sc rfl (oA rfl (opd_nilTip (α := Str) (e := 9))) <| .nil) [2, 4, 7] rfl (fun a1 w1 st1 => ?_)
 refine st1.sq (
  sc rfl (op_lit0 (α := Str) (e := 9) rfl kS36) <|
  sc rfl (oA rfl (tp rfl)) <| .nil) [2, 4, 7] rfl [(9, 0)] rfl ⟨iE, trivial⟩ (fun a2 w2 st2 => ?_)
 refine wp_seq ?_
 refine st2.sq (
  sc rfl (op_field Spec.fld1 rfl kF56_1 (tp rfl)) <|
  sc rfl (op_load rfl kT3 (tp rfl)) <|
  sc rfl (oCI rfl (tp rfl) cI) <| .nil) [2, 4, 7, 17] rfl [(9, 0)] rfl ⟨iE, trivial⟩ (fun a3 w3 st3 => ?_)
 refine st3.cs (c := 17) rfl h (fun c4 h4 => ?_) (fun c5 h5 => ?_)
 ·
  refine st3.sq (
   sc rfl (oM rfl (tp rfl)) <|
   sc rfl (oA rfl (tp rfl)) <| .nil) [] rfl [(8, 0)] rfl ⟨iE, trivial⟩ (fun a6 w6 st6 => ?_)
  refine wp_ret (thn_ret ?_)
  exact st6.ret_own 0 rfl rfl iE h4
 ·
  refine wp_skip (then_normal ?_)
  refine st3.sq (
   sc rfl (oM rfl (tp rfl)) <|
   sc rfl (oA rfl (tp rfl)) <| .nil) [2, 4, 7, 10] rfl [(9, 0)] rfl ⟨iE, trivial⟩ (fun a7 w7 st7 => ?_)
  obtain ⟨o8, p8, k8⟩ := bs h5
  refine wp_seq_join (fun a w => ∃ M1 q8_0, Sx (Frm.of w0) 78 M M1 [oneB q8_0] [(4, dptr x0), (7, dptr x3), (10, dt o8)] [(9, 0, dtip q8_0 9 ([] : List Str))] a w) ?_ ?_
  ·
   refine st7.sq (
    sc rfl (op_field Spec.fld0 rfl kF56_0 (tp rfl)) <|
    sc rfl (op_load rfl kT3 (tp rfl)) <|
    sc rfl (oCI rfl (tp rfl) cI) <| .nil) [2, 4, 7, 10, 22] rfl [(9, 0)] rfl ⟨iE, trivial⟩ (fun a9 w9 st9 => ?_)
   refine st9.cs (c := 22) rfl p8 (fun c10 h10 => ?_) (fun c11 h11 => ?_)
   ·
    obtain ⟨v12, p12, h13⟩ := bs h10
    refine st9.rg (
     sc rfl (oM rfl (tp rfl)) <|
     sc rfl (op_call (l := [.tmp 23]) rfl kN64 (.cons (tp rfl) .nil) (spec_parent_w p12)) <|
     sc rfl (oA rfl (tp rfl)) <| .nil) [4, 7, 10] rfl [(9, 0)] rfl ⟨iE, trivial⟩ (fun a14 w14 st14 => ?_)
    refine then_normal ?_
    obtain rfl := Option.some.inj h13
    exact ⟨_, _, st14.sel [4, 7, 10] rfl [(9, 0)] rfl ⟨iE, trivial⟩⟩
   ·
    refine wp_skip (then_normal ?_)
    obtain rfl := Option.some.inj h11
    exact ⟨_, _, st9.sel [4, 7, 10] rfl [(9, 0)] rfl ⟨iE, trivial⟩⟩
  ·
   rintro a8 w8 ⟨M8, q8_0, st8⟩
   have h15 := k8
   obtain ⟨v16, p16, h17⟩ := bs h15
   refine st8.sq (
    sc rfl (op_field Tree.fld0 rfl kF30_0 (tp rfl)) <|
    sc rfl (op_load rfl kT28 (tp rfl)) <|
    sc rfl (op_field Spec.fld1 rfl kF56_1 (tp rfl)) <|
    sc rfl (op_load rfl kT3 (tp rfl)) <|
    sc rfl (xIdx rfl kS28 (tp rfl) (tp rfl) p16) <|
    sc rfl (op_field File.fld5 rfl kF61_5 (tp rfl)) <|
    sc rfl (op_load rfl kT59 (tp rfl)) <|
    sc rfl (oA rfl (tp rfl)) <| .nil) [10, 11] rfl [(9, 0)] rfl ⟨iI, trivial⟩ (fun a18 w18 st18 => ?_)
   obtain ⟨o19, p19, k19⟩ := bs h17
   refine wp_seq_join (fun a w => ∃ M1 q19_0, Sx (Frm.of w0) 78 M M1 [oneB q19_0] [] [(9, 0, dtip q19_0 9 o19)] a w) ?_ ?_
   ·
    refine st18.sq (
     sc rfl (oA rfl cI) <| .nil) [10, 11, 12] rfl [(9, 0)] rfl ⟨iI, trivial⟩ (fun a20 w20 st20 => ?_)
    refine wp_block ?_
    refine loop_model p19 (fun s21 a w => ∃ M1 q21_0, Sx (Frm.of w0) 78 M M1 [oneB q21_0] [(10, dt o8), (11, dt v16.body), (12, dt s21.2)] [(9, 0, dtip q21_0 9 s21.1)] a w) ⟨_, _, st20.sel [10, 11, 12] rfl [(9, 0)] rfl ⟨iI, trivial⟩⟩ ?_
    rintro s21 x21 a21 w21 ⟨M21, q21_0, st21⟩ hs21 hx21
    have h22 : m_spec_needs_s0 o8 v16 s21 = some x21 := hs21
    unfold m_spec_needs_s0 at h22
    refine wp_seq ?_
    refine st21.sq (
      sc rfl (oM rfl (tp rfl)) <|
      sc rfl (oM rfl (tp rfl)) <|
      sc rfl (op_lenL rfl kL59 (tp rfl)) <|
      sc rfl (oCI rfl (tp rfl) (tp rfl)) <| .nil) [10, 11, 12, 35] rfl [(9, 0)] rfl ⟨iI, trivial⟩ (fun a23 w23 st23 => ?_)
    refine st23.cs (c := 35) rfl h22 (fun c24 h24 => ?_) (fun c25 h25 => ?_)
    ·
     refine wp_skip (then_normal ?_)
     obtain ⟨o26, p26, k26⟩ := bs h24
     refine wp_seq_join (fun a w => ∃ M1 q26_0, Sx (Frm.of w0) 78 M M1 [oneB q26_0] [(10, dt o8), (11, dt v16.body), (12, dt s21.2)] [(9, 0, dtip q26_0 9 o26)] a w) ?_ ?_
     ·
      refine wp_block ?_
      refine st23.sq (
        sc rfl (oA rfl (opd_str (by decide))) <| .nil) [10, 11, 12, 13] rfl [(9, 0)] rfl ⟨iI, trivial⟩ (fun a27 w27 st27 => ?_)
      obtain ⟨o28, p28, k28⟩ := bs p26
      refine wp_seq_join (fun a w => ∃ M1 q28_0, Sx (Frm.of w0) 78 M M1 [oneB q28_0] [(10, dt o8), (11, dt v16.body), (12, dt s21.2), (13, dt o28)] [(9, 0, dtip q28_0 9 s21.1)] a w) ?_ ?_
      ·
       obtain ⟨v29, p29, h30⟩ := bs p28
       refine st27.sq (
         sc rfl (oM rfl (tp rfl)) <|
         sc rfl (oM rfl (tp rfl)) <|
         sc rfl (xIdx rfl kS59 (tp rfl) (tp rfl) p29) <|
         sc rfl (op_field Stmt.fld0 rfl kF64_0 (tp rfl)) <|
         sc rfl (op_load rfl kT3 (tp rfl)) <| .nil) [10, 11, 12, 13, 42] rfl [(9, 0)] rfl ⟨iI, trivial⟩ (fun a31 w31 st31 => ?_)
       refine wp_block ?_
       obtain ⟨o32, p32, k32⟩ := bs h30
       refine wp_seq_join (fun a w => ∃ M1 q32_0, Sx (Frm.of w0) 78 M M1 [oneB q32_0] [(10, dt o8), (11, dt v16.body), (12, dt s21.2), (13, dt (⟨[]⟩ : Str)), (42, dt v29.kind), (43, dt o32)] [(9, 0, dtip q32_0 9 s21.1)] a w) ?_ ?_
       ·
        refine st31.sq (
          sc rfl (oCI rfl (tp rfl) cI) <|
          sc rfl (oA rfl (tp rfl)) <| .nil) [10, 11, 12, 13, 42, 43] rfl [(9, 0)] rfl ⟨iI, trivial⟩ (fun a33 w33 st33 => ?_)
        refine st33.cs (c := 43) rfl p32 (fun c34 h34 => ?_) (fun c35 h35 => ?_)
        ·
         refine wp_skip (then_normal ?_)
         obtain rfl := Option.some.inj h34
         exact ⟨_, _, st33.sel [10, 11, 12, 13, 42, 43] rfl [(9, 0)] rfl ⟨iI, trivial⟩⟩
        ·
         refine st33.rg (
           sc rfl (oCI rfl (tp rfl) cI) <|
           sc rfl (oA rfl (tp rfl)) <| .nil) [10, 11, 12, 13, 42, 43] rfl [(9, 0)] rfl ⟨iI, trivial⟩ (fun a36 w36 st36 => ?_)
         refine then_normal ?_
         obtain rfl := Option.some.inj h35
         exact ⟨_, _, st36.sel [10, 11, 12, 13, 42, 43] rfl [(9, 0)] rfl ⟨iI, trivial⟩⟩
       ·
        rintro a32 w32 ⟨M32, q32_0, st32⟩
        have h37 := k32
        refine st32.cs (c := 43) rfl h37 (fun c38 h38 => ?_) (fun c39 h39 => ?_)
        ·
         obtain ⟨v40, p40, h41⟩ := bs h38
         refine st32.rg (
           sc rfl (oM rfl (tp rfl)) <|
           sc rfl (oM rfl (tp rfl)) <|
           sc rfl (xIdx rfl kS59 (tp rfl) (tp rfl) p40) <|
           sc rfl (op_field Stmt.fld1 rfl kF64_1 (tp rfl)) <|
           sc rfl (op_load rfl kT9 (tp rfl)) <|
           sc rfl (oA rfl (tp rfl)) <| .nil) [10, 11, 12, 13] rfl [(9, 0)] rfl ⟨iI, trivial⟩ (fun a42 w42 st42 => ?_)
         refine blk_normal (then_normal ?_)
         obtain rfl := Option.some.inj h41
         exact ⟨_, _, st42.sel [10, 11, 12, 13] rfl [(9, 0)] rfl ⟨iI, trivial⟩⟩
        ·
         refine st32.sq (
           sc rfl (oCI rfl (tp rfl) cI) <|
           sc rfl (oA rfl (tp rfl)) <| .nil) [10, 11, 12, 13, 51] rfl [(9, 0)] rfl ⟨iI, trivial⟩ (fun a43 w43 st43 => ?_)
         refine st43.cs (c := 51) rfl h39 (fun c44 h44 => ?_) (fun c45 h45 => ?_)
         ·
          obtain ⟨v46, p46, h49⟩ := bs h44
          obtain ⟨v47, p47, h50⟩ := bs h49
          obtain ⟨v48, p48, h51⟩ := bs h50
          refine st43.dr (D := [_, _, _, _, _, _, _, _, _, _, _, _, _]) Tryz_mixed [[], [], [], [1, 2], [1, 2, 3], [1, 2, 3, 4], [], [], [6, 7], [6, 7, 8], [6, 7, 8, 9], [0, 1, 2, 3, 4, 5, 6, 7, 8, 9, 10], [0, 1, 2, 3, 4, 5, 6, 7, 8, 9, 10, 11]] [[(10, none)], [(11, none)], [(12, none)], [(54, some 1), (55, some 2)], [(56, some 3)], [(57, some 4)], [(11, none)], [(12, none)], [(59, some 6), (60, some 7)], [(61, some 8)], [(62, some 9)], [(53, some 0), (58, some 5), (63, some 10)], [(64, some 11)]] (by decide +kernel) (
           rc rfl rfl (oM rfl (tp rfl)) <|
            rc rfl rfl (oM rfl (tp rfl)) <|
            rc rfl rfl (oM rfl (tp rfl)) <|
            rc rfl rfl (xIdx rfl kS59 (tp rfl) (tp rfl) p46) <|
            rc rfl rfl (op_field Stmt.fld2 rfl kF64_2 (tp rfl)) <|
            rc rfl rfl (op_load rfl kT3 (tp rfl)) <|
            rc rfl rfl (oM rfl (tp rfl)) <|
            rc rfl rfl (oM rfl (tp rfl)) <|
            rc rfl rfl (xIdx rfl kS59 (tp rfl) (tp rfl) p47) <|
            rc rfl rfl (op_field Stmt.fld1 rfl kF64_1 (tp rfl)) <|
            rc rfl rfl (op_load rfl kT9 (tp rfl)) <|
            rc rfl rfl (op_call (l := [.tmp 53, .tmp 58, .tmp 63]) rfl kN186 (.cons (tp rfl) (.cons (tp rfl) (.cons (tp rfl) .nil))) (spec_resolve_w p48)) <|
            rc rfl rfl (oA rfl (tp rfl)) <| .nil) [10, 11, 12, 13] rfl [(9, 0)] rfl ⟨iI, trivial⟩ (fun a52 w52 st52 => ?_)
          refine blk_normal (then_normal ?_)
          obtain rfl := Option.some.inj h51
          exact ⟨_, _, st52.sel [10, 11, 12, 13] rfl [(9, 0)] rfl ⟨iI, trivial⟩⟩
         ·
          refine wp_skip (blk_normal (then_normal ?_))
          obtain rfl := Option.some.inj h45
          exact ⟨_, _, st43.sel [10, 11, 12, 13] rfl [(9, 0)] rfl ⟨iI, trivial⟩⟩
      ·
       rintro a28 w28 ⟨M28, q28_0, st28⟩
       have h53 := k28
       obtain ⟨v54, p54, h56⟩ := bs h53
       obtain ⟨v55, p55, h57⟩ := bs h56
       refine st28.sq (
         sc rfl (oM rfl (tp rfl)) <|
         sc rfl (op_call (l := [.tmp 65]) rfl kN53 (.cons (tp rfl) .nil) (spec_validName_w p54)) <|
         sc rfl (oM rfl (tp rfl)) <|
         sg rfl rfl (fun hg => oM rfl (tp rfl)) <|
         sg rfl rfl (fun hg => oM rfl (tp rfl)) <|
         sg rfl rfl (fun hg => op_callT (l := [.tmp 68, .tmp 69]) st28.ob.sub rfl kN93 (.cons (borrow st28.ob 0 rfl (opd_g hg rfl)) (.cons (opd2_of st28.ob.sub (opd_g hg rfl)) .nil)) (spec_hasText_w (gh hg p55)) flat_bool) <|
         sg rfl rfl (fun hg => op_not rfl (opd_g hg rfl)) <|
         sc rfl (op_and rfl (tp rfl) (opd_tmp rfl)) <| .nil) [10, 11, 12, 13, 72] rfl [(9, 0)] rfl ⟨iI, trivial⟩ (fun a58 w58 st58 => ?_)
       refine st58.cs (c := 72) rfl h57 (fun c59 h59 => ?_) (fun c60 h60 => ?_)
       ·
        refine wp_region_list ?_
        refine st58.seg 3 (
          sc rfl (oM rfl (tp rfl)) <|
          sc rfl (oM rfl (tp rfl)) <|
          sc rfl (op_lit (opds := [.tmp 74]) rfl kS36 kY36 rfl rfl (by decide) (.cons (tp rfl) .nil)) <| .nil) [10, 11, 12, 75] rfl [(9, 0), (73, 0)] rfl ⟨iI, ⟨iI, trivial⟩⟩ (fun a61 w61 st61 => ?_)
        obtain ⟨v64, p64, h65⟩ := bs h59
        refine st61.app 0 rfl rfl kE36 rfl rfl rfl row_dt p64 [10, 11, 12] rfl [] rfl rfl (fun g63 M63 a63 w63 st63 => ?_)
        refine st63.seg 1 (
          sc rfl (oA rfl (tp rfl)) <| .nil) [10, 11, 12] rfl [(9, 0)] rfl ⟨iI, trivial⟩ (fun a66 w66 st66 => ?_)
        refine wpList_nil (blk_normal (then_normal ?_))
        obtain rfl := Option.some.inj h65
        exact ⟨_, _, st66.sel [10, 11, 12] rfl [(9, 0)] rfl ⟨iI, trivial⟩⟩
       ·
        refine wp_skip (blk_normal (then_normal ?_))
        obtain rfl := Option.some.inj h60
        exact ⟨_, _, st58.sel [10, 11, 12] rfl [(9, 0)] rfl ⟨iI, trivial⟩⟩
     ·
      rintro a26 w26 ⟨M26, q26_0, st26⟩
      have h67 := k26
      obtain ⟨v68, p68, h69⟩ := bs h67
      refine st26.rg (
        sc rfl (oM rfl (tp rfl)) <|
        sc rfl (xAr rfl (tp rfl) cI p68) <|
        sc rfl (oA rfl (tp rfl)) <| .nil) [10, 11, 12] rfl [(9, 0)] rfl ⟨iI, trivial⟩ (fun a70 w70 st70 => ?_)
      refine then_normal ?_
      exact ⟨_, (Option.some.inj h69).symm, ⟨_, _, st70.sel [10, 11, 12] rfl [(9, 0)] rfl ⟨iI, trivial⟩⟩⟩
    ·
     refine wp_exit (thn_exit (thn_exit (exit_here ?_)))
     refine then_normal ?_
     have h71 := lo h25 hx21
     obtain rfl := Option.some.inj h71
     exact ⟨_, _, st23.sel [] rfl [(9, 0)] rfl ⟨iI, trivial⟩⟩
   ·
    rintro a19 w19 ⟨M19, q19_0, st19⟩
    have h72 := k19
    refine st19.sq (
     sc rfl (oM rfl (tp rfl)) <|
     sc rfl (oA rfl (tp rfl)) <| .nil) [] rfl [(8, 0)] rfl ⟨iI, trivial⟩ (fun a73 w73 st73 => ?_)
    refine wp_ret ?_
    exact st73.ret_own 0 rfl rfl iI h72
def m_spec_needsOf (x0 : Tree) (x1 : List Int) (x2 : Str) : Option (List Str) :=
(m_spec_find x0 x1 x2).bind fun v2 =>
(m_spec_needs x0 x1 x2 v2).bind fun v3 =>
some v3
theorem spec_needsOf_w {x0 : Tree} {x1 : List Int} {x2 : Str} {r : List Str} (h : m_spec_needsOf x0 x1 x2 = some r) : Fn Tryz.prog 133 [dt x0, dt x1, dt x2] (dt r) := by
 unfold m_spec_needsOf at h
 refine fnx (fn := Tryz.f133) 0 Tryz.func133 rfl (of_decide_eq_true rfl) rfl (fun M w0 a0 st0 => ?_)
 refine st0.sq0 (
  sc rfl (op_box rfl (tp rfl)) <|
  sc rfl (oA rfl (opd_nil (α := Str))) <| .nil) [1, 2, 3] rfl (fun a1 w1 st1 => ?_)
 refine wp_seq ?_
 obtain ⟨v2, p2, h4⟩ := bs h
 obtain ⟨v3, p3, h5⟩ := bs h4
 refine st1.dr (D := [_, _, _, _, _, _, _, _, _]) Tryz_mixed [[], [], [], [], [], [], [3, 4, 5], [0, 1, 2, 3, 4, 5, 6], [0, 1, 2, 3, 4, 5, 6, 7]] [[(3, none)], [(1, none)], [(2, none)], [(3, none)], [(1, none)], [(2, none)], [(10, some 3), (11, some 4), (12, some 5)], [(7, some 0), (8, some 1), (9, some 2), (13, some 6)], [(14, some 7)]] (by decide +kernel) (
  rc rfl rfl (op_load rfl kT30 (tp rfl)) <|
  rc rfl rfl (oM rfl (tp rfl)) <|
  rc rfl rfl (oM rfl (tp rfl)) <|
  rc rfl rfl (op_load rfl kT30 (tp rfl)) <|
  rc rfl rfl (oM rfl (tp rfl)) <|
  rc rfl rfl (oM rfl (tp rfl)) <|
  rc rfl rfl (op_call (l := [.tmp 10, .tmp 11, .tmp 12]) rfl kN56 (.cons (tp rfl) (.cons (tp rfl) (.cons (tp rfl) .nil))) (spec_find_w p2)) <|
  rc rfl rfl (op_call (l := [.tmp 7, .tmp 8, .tmp 9, .tmp 13]) rfl kN158 (.cons (tp rfl) (.cons (tp rfl) (.cons (tp rfl) (.cons (tp rfl) .nil)))) ((spec_needs_w p3)).fn) <|
  rc rfl rfl (oA rfl (tp rfl)) <| .nil) [6] rfl [] rfl trivial (fun a6 w6 st6 => ?_)
 refine then_normal (wp_ret ?_)
 exact st6.ret rfl rfl h5
def m_spec_edges (x0 : Tree) (x1 : List Int) (x2 : Str) : Option (List Str) :=
(m_spec_needsOf x0 x1 x2).bind fun v2 =>
(m_spec_full v2).bind fun v3 =>
some v3
theorem spec_edges_w {x0 : Tree} {x1 : List Int} {x2 : Str} {r : List Str} (h : m_spec_edges x0 x1 x2 = some r) : Fn Tryz.prog 94 [dt x0, dt x1, dt x2] (dt r) := by
 unfold m_spec_edges at h
 refine fnx (fn := Tryz.f94) 0 Tryz.func94 rfl (of_decide_eq_true rfl) rfl (fun M w0 a0 st0 => ?_)
 refine st0.sq0 (
  sc rfl (op_box rfl (tp rfl)) <|
  sc rfl (oA rfl (opd_nil (α := Str))) <| .nil) [1, 2, 3] rfl (fun a1 w1 st1 => ?_)
 obtain ⟨v2, p2, h4⟩ := bs h
 obtain ⟨v3, p3, h5⟩ := bs h4
 refine st1.sq0 (
  sc rfl (op_load rfl kT30 (tp rfl)) <|
  sc rfl (oM rfl (tp rfl)) <|
  sc rfl (oM rfl (tp rfl)) <|
  sc rfl (op_call (l := [.tmp 7, .tmp 8, .tmp 9]) rfl kN133 (.cons (tp rfl) (.cons (tp rfl) (.cons (tp rfl) .nil))) (spec_needsOf_w p2)) <|
  sc rfl (op_call (l := [.tmp 10]) rfl kN132 (.cons (tp rfl) .nil) ((spec_full_w p3)).fn) <|
  sc rfl (oA rfl (tp rfl)) <| .nil) [6] rfl (fun a6 w6 st6 => ?_)
 refine wp_ret ?_
 exact st6.ret rfl rfl h5
def m_spec_reach_s1 (v17 : List Str) (s22 : (List Str) × Int) : Option (((List Str) × Int) ⊕ (List Str)) :=
if (cmpI .lss s22.2 (v17.length : Int)) = true then (Option.bind (α := (List Str)) ((atI v17 s22.2).bind fun v28 =>
(m_spec_hasText s22.1 v28).bind fun v29 =>
if (!v29) = true then ((atI v17 s22.2).bind fun v35 =>
(appO 16 s22.1 ([v35] : List Str)).bind fun v40 =>
some v40)
else (some s22.1)) fun o27 =>
(i64 (s22.2 + (1 : Int))).bind fun v44 =>
some (.inl (o27, v44)))
else (some (.inr s22.1))
def m_spec_reach_s0 (x0 : Tree) (x1 : List Int) (s10 : (List Str) × Int) : Option (((List Str) × Int) ⊕ (List Str)) :=
if (cmpI .lss s10.2 (s10.1.length : Int)) = true then (Option.bind (α := (List Str)) ((atI s10.1 s10.2).bind fun v16 =>
(m_spec_edges x0 x1 v16).bind fun v17 =>
loopM (fun s22 => m_spec_reach_s1 v17 s22) (s10.1, (0 : Int))) fun o15 =>
(i64 (s10.2 + (1 : Int))).bind fun v49 =>
some (.inl (o15, v49)))
else (some (.inr s10.1))
def m_spec_reach (x0 : Tree) (x1 : List Int) (x2 : List Str) : Option (List Str) :=
(appO 16 [] x2).bind fun v5 =>
Option.bind (α := (List Str)) (loopM (fun s10 => m_spec_reach_s0 x0 x1 s10) (v5, (0 : Int))) fun o8 =>
some o8
theorem spec_reach_w {x0 : Tree} {x1 : List Int} {x2 : List Str} {r : List Str} (h : m_spec_reach x0 x1 x2 = some r) : FnOwn Tryz.prog 54 [dt x0, dt x1, dt x2] 9 r := by
 unfold m_spec_reach at h
 refine fnxO (fn := Tryz.f54) 1 Tryz.func54 rfl (of_decide_eq_true rfl) rfl (fun M w0 a0 st0 => ?_)
 refine st0.sq0 (
  sc rfl (op_box rfl (tp rfl)) <|
  sc rfl (oA rfl (opd_nilTip (α := Str) (e := 9))) <| .nil) [1, 2, 3] rfl (fun a1 w1 st1 => ?_)
 refine wp_seq (wp_region_list ?_)
 refine st1.seg 2 (
  sc rfl (op_lit0 (α := Str) (e := 9) rfl kS36) <|
  sc rfl (oM rfl (tp rfl)) <| .nil) [1, 3, 12] rfl [(11, 0)] rfl ⟨iE, trivial⟩ (fun a2 w2 st2 => ?_)
 obtain ⟨v5, p5, h6⟩ := bs h
 refine st2.app 0 rfl rfl kE36 rfl rfl rfl row_dt p5 [1, 3] rfl [] rfl rfl (fun g4 M4 a4 w4 st4 => ?_)
 refine st4.seg 1 (
  sc rfl (oA rfl (tp rfl)) <| .nil) [1, 3] rfl [(7, 0)] rfl ⟨iI, trivial⟩ (fun a7 w7 st7 => ?_)
 refine wpList_nil (then_normal ?_)
 obtain ⟨o8, p8, k8⟩ := bs h6
 refine wp_seq_join (fun a w => ∃ M1 q8_0, Sx (Frm.of w0) 48 M M1 [oneB q8_0] [] [(7, 0, dtip q8_0 9 o8)] a w) ?_ ?_
 ·
  refine st7.sq (
   sc rfl (oA rfl cI) <| .nil) [1, 3, 8] rfl [(7, 0)] rfl ⟨iI, trivial⟩ (fun a9 w9 st9 => ?_)
  refine wp_block ?_
  refine loop_model p8 (fun s10 a w => ∃ M1 q10_0, Sx (Frm.of w0) 48 M M1 [oneB q10_0] [(1, dt x1), (3, dptr x0), (8, dt s10.2)] [(7, 0, dtip q10_0 9 s10.1)] a w) ⟨_, _, st9.sel [1, 3, 8] rfl [(7, 0)] rfl ⟨iI, trivial⟩⟩ ?_
  rintro s10 x10 a10 w10 ⟨M10, q10_0, st10⟩ hs10 hx10
  have h11 : m_spec_reach_s0 x0 x1 s10 = some x10 := hs10
  unfold m_spec_reach_s0 at h11
  refine wp_seq ?_
  refine st10.sq (
    sc rfl (oM rfl (tp rfl)) <|
    sc rfl (oM rfl (tp rfl)) <|
    sc rfl (op_lenT rfl kL36 (tp rfl)) <|
    sc rfl (oCI rfl (tp rfl) (tp rfl)) <| .nil) [1, 3, 8, 17] rfl [(7, 0)] rfl ⟨iI, trivial⟩ (fun a12 w12 st12 => ?_)
  refine st12.cs (c := 17) rfl h11 (fun c13 h13 => ?_) (fun c14 h14 => ?_)
  ·
   refine wp_skip (then_normal ?_)
   obtain ⟨o15, p15, k15⟩ := bs h13
   refine wp_seq_join (fun a w => ∃ M1 q15_0, Sx (Frm.of w0) 48 M M1 [oneB q15_0] [(1, dt x1), (3, dptr x0), (8, dt s10.2)] [(7, 0, dtip q15_0 9 o15)] a w) ?_ ?_
   ·
    refine wp_block (wp_seq ?_)
    obtain ⟨v16, p16, h18⟩ := bs p15
    obtain ⟨v17, p17, h19⟩ := bs h18
    refine st12.dr (D := [_, _, _, _, _, _, _, _]) Tryz_mixed [[], [], [], [], [2, 3], [2, 3, 4], [0, 1, 2, 3, 4, 5], [0, 1, 2, 3, 4, 5, 6]] [[(3, none)], [(1, none)], [(7, none)], [(8, none)], [(22, some 2), (23, some 3)], [(24, some 4)], [(20, some 0), (21, some 1), (25, some 5)], [(26, some 6)]] (by decide +kernel) (
     rc rfl rfl (op_load rfl kT30 (tp rfl)) <|
      rc rfl rfl (oM rfl (tp rfl)) <|
      rc rfl rfl (oM rfl (tp rfl)) <|
      rc rfl rfl (oM rfl (tp rfl)) <|
      rc rfl rfl (xIdxT rfl kS36 (tp rfl) (tp rfl) p16) <|
      rc rfl rfl (op_loadBox rfl kT9 (tp rfl)) <|
      rc rfl rfl (op_call (l := [.tmp 20, .tmp 21, .tmp 25]) rfl kN94 (.cons (tp rfl) (.cons (tp rfl) (.cons (tp rfl) .nil))) (spec_edges_w p17)) <|
      rc rfl rfl (oA rfl (tp rfl)) <| .nil) [1, 3, 8, 9] rfl [(7, 0)] rfl ⟨iI, trivial⟩ (fun a20 w20 st20 => ?_)
    refine then_normal ?_
    refine st20.sq (
      sc rfl (oA rfl cI) <| .nil) [1, 3, 8, 9, 10] rfl [(7, 0)] rfl ⟨iI, trivial⟩ (fun a21 w21 st21 => ?_)
    refine wp_block ?_
    refine loop_model h19 (fun s22 a w => ∃ M1 q22_0, Sx (Frm.of w0) 48 M M1 [oneB q22_0] [(1, dt x1), (3, dptr x0), (8, dt s10.2), (9, dt v17), (10, dt s22.2)] [(7, 0, dtip q22_0 9 s22.1)] a w) ⟨_, _, st21.sel [1, 3, 8, 9, 10] rfl [(7, 0)] rfl ⟨iI, trivial⟩⟩ ?_
    rintro s22 x22 a22 w22 ⟨M22, q22_0, st22⟩ hs22 hx22
    have h23 : m_spec_reach_s1 v17 s22 = some x22 := hs22
    unfold m_spec_reach_s1 at h23
    refine wp_seq ?_
    refine st22.sq (
       sc rfl (oM rfl (tp rfl)) <|
       sc rfl (oM rfl (tp rfl)) <|
       sc rfl (op_lenL rfl kL36 (tp rfl)) <|
       sc rfl (oCI rfl (tp rfl) (tp rfl)) <| .nil) [1, 3, 8, 9, 10, 30] rfl [(7, 0)] rfl ⟨iI, trivial⟩ (fun a24 w24 st24 => ?_)
    refine st24.cs (c := 30) rfl h23 (fun c25 h25 => ?_) (fun c26 h26 => ?_)
    ·
     refine wp_skip (then_normal ?_)
     obtain ⟨o27, p27, k27⟩ := bs h25
     refine wp_seq_join (fun a w => ∃ M1 q27_0, Sx (Frm.of w0) 48 M M1 [oneB q27_0] [(1, dt x1), (3, dptr x0), (8, dt s10.2), (9, dt v17), (10, dt s22.2)] [(7, 0, dtip q27_0 9 o27)] a w) ?_ ?_
     ·
      refine wp_block ?_
      obtain ⟨v28, p28, h30⟩ := bs p27
      obtain ⟨v29, p29, h31⟩ := bs h30
      refine st24.sq (
         sc rfl (oM rfl (tp rfl)) <|
         sc rfl (oM rfl (tp rfl)) <|
         sc rfl (oM rfl (tp rfl)) <|
         sc rfl (xIdx rfl kS36 (tp rfl) (tp rfl) p28) <|
         sc rfl (op_load rfl kT9 (tp rfl)) <|
         sc rfl (op_callT (l := [.tmp 33, .tmp 37]) st24.ob.sub rfl kN93 (.cons (borrow st24.ob 0 rfl (tp rfl)) (.cons (opd2_of st24.ob.sub (tp rfl)) .nil)) (spec_hasText_w p29) flat_bool) <|
         sc rfl (op_not rfl (tp rfl)) <| .nil) [1, 3, 8, 9, 10, 39] rfl [(7, 0)] rfl ⟨iI, trivial⟩ (fun a32 w32 st32 => ?_)
      refine st32.cs (c := 39) rfl h31 (fun c33 h33 => ?_) (fun c34 h34 => ?_)
      ·
       refine wp_region_list ?_
       obtain ⟨v35, p35, h36⟩ := bs h33
       refine st32.seg 6 (
          sc rfl (oM rfl (tp rfl)) <|
          sc rfl (oM rfl (tp rfl)) <|
          sc rfl (oM rfl (tp rfl)) <|
          sc rfl (xIdx rfl kS36 (tp rfl) (tp rfl) p35) <|
          sc rfl (op_load rfl kT9 (tp rfl)) <|
          sc rfl (op_lit (opds := [.tmp 44]) rfl kS36 kY36 rfl rfl (by decide) (.cons (tp rfl) .nil)) <| .nil) [1, 3, 8, 9, 10, 45] rfl [(7, 0), (40, 0)] rfl ⟨iI, ⟨iI, trivial⟩⟩ (fun a37 w37 st37 => ?_)
       obtain ⟨v40, p40, h41⟩ := bs h36
       refine st37.app 0 rfl rfl kE36 rfl rfl rfl row_dt p40 [1, 3, 8, 9, 10] rfl [] rfl rfl (fun g39 M39 a39 w39 st39 => ?_)
       refine st39.seg 1 (
          sc rfl (oA rfl (tp rfl)) <| .nil) [1, 3, 8, 9, 10] rfl [(7, 0)] rfl ⟨iI, trivial⟩ (fun a42 w42 st42 => ?_)
       refine wpList_nil (blk_normal (then_normal ?_))
       obtain rfl := Option.some.inj h41
       exact ⟨_, _, st42.sel [1, 3, 8, 9, 10] rfl [(7, 0)] rfl ⟨iI, trivial⟩⟩
      ·
       refine wp_skip (blk_normal (then_normal ?_))
       obtain rfl := Option.some.inj h34
       exact ⟨_, _, st32.sel [1, 3, 8, 9, 10] rfl [(7, 0)] rfl ⟨iI, trivial⟩⟩
     ·
      rintro a27 w27 ⟨M27, q27_0, st27⟩
      have h43 := k27
      obtain ⟨v44, p44, h45⟩ := bs h43
      refine st27.rg (
         sc rfl (oM rfl (tp rfl)) <|
         sc rfl (xAr rfl (tp rfl) cI p44) <|
         sc rfl (oA rfl (tp rfl)) <| .nil) [1, 3, 8, 9, 10] rfl [(7, 0)] rfl ⟨iI, trivial⟩ (fun a46 w46 st46 => ?_)
      refine then_normal ?_
      exact ⟨_, (Option.some.inj h45).symm, ⟨_, _, st46.sel [1, 3, 8, 9, 10] rfl [(7, 0)] rfl ⟨iI, trivial⟩⟩⟩
    ·
     refine wp_exit (thn_exit (thn_exit (exit_here ?_)))
     refine blk_normal (then_normal ?_)
     have h47 := lo h26 hx22
     obtain rfl := Option.some.inj h47
     exact ⟨_, _, st24.sel [1, 3, 8] rfl [(7, 0)] rfl ⟨iI, trivial⟩⟩
   ·
    rintro a15 w15 ⟨M15, q15_0, st15⟩
    have h48 := k15
    obtain ⟨v49, p49, h50⟩ := bs h48
    refine st15.rg (
      sc rfl (oM rfl (tp rfl)) <|
      sc rfl (xAr rfl (tp rfl) cI p49) <|
      sc rfl (oA rfl (tp rfl)) <| .nil) [1, 3, 8] rfl [(7, 0)] rfl ⟨iI, trivial⟩ (fun a51 w51 st51 => ?_)
    refine then_normal ?_
    exact ⟨_, (Option.some.inj h50).symm, ⟨_, _, st51.sel [1, 3, 8] rfl [(7, 0)] rfl ⟨iI, trivial⟩⟩⟩
  ·
   refine wp_exit (thn_exit (thn_exit (exit_here ?_)))
   refine then_normal ?_
   have h52 := lo h14 hx10
   obtain rfl := Option.some.inj h52
   exact ⟨_, _, st12.sel [] rfl [(7, 0)] rfl ⟨iI, trivial⟩⟩
 ·
  rintro a8 w8 ⟨M8, q8_0, st8⟩
  have h53 := k8
  refine st8.sq (
   sc rfl (oM rfl (tp rfl)) <|
   sc rfl (oA rfl (tp rfl)) <| .nil) [] rfl [(6, 0)] rfl ⟨iI, trivial⟩ (fun a54 w54 st54 => ?_)
  refine wp_ret ?_
  exact st54.ret_own 0 rfl rfl iI h53
def m_impl_graphOk (x0 : Tree) (x1 : List Int) (x2 : Str) : Option Bool :=
(m_impl_ValidTree x0).bind fun v2 =>
(gO (v2 == true) (m_impl_ValidPath x1)).bind fun v3 =>
(gO ((v2 && v3) == true) (m_impl_ValidName x2)).bind fun v4 =>
some ((v2 && v3) && v4)
theorem impl_graphOk_w {x0 : Tree} {x1 : List Int} {x2 : Str} {r : Bool} (h : m_impl_graphOk x0 x1 x2 = some r) : Fn Tryz.prog 60 [dt x0, dt x1, dt x2] (dt r) := by
 unfold m_impl_graphOk at h
 refine fnx (fn := Tryz.f60) 0 Tryz.func60 rfl (of_decide_eq_true rfl) rfl (fun M w0 a0 st0 => ?_)
 refine st0.sq0 (
  sc rfl (op_box rfl (tp rfl)) <|
  sc rfl (oA rfl cB) <| .nil) [1, 2, 3] rfl (fun a1 w1 st1 => ?_)
 obtain ⟨v2, p2, h5⟩ := bs h
 obtain ⟨v3, p3, h6⟩ := bs h5
 obtain ⟨v4, p4, h7⟩ := bs h6
 refine st1.sq0 (
  sc rfl (op_load rfl kT30 (tp rfl)) <|
  sc rfl (op_call (l := [.tmp 7]) rfl kN39 (.cons (tp rfl) .nil) (impl_ValidTree_w p2)) <|
  sc rfl (oM rfl (tp rfl)) <|
  sg rfl rfl (fun hg => oM rfl (tp rfl)) <|
  sg rfl rfl (fun hg => op_call (l := [.tmp 10]) rfl kN40 (.cons (opd_g hg rfl) .nil) (impl_ValidPath_w (gh hg p3))) <|
  sc rfl (op_and rfl (tp rfl) (opd_tmp rfl)) <|
  sc rfl (oM rfl (tp rfl)) <|
  sg rfl rfl (fun hg => oM rfl (tp rfl)) <|
  sg rfl rfl (fun hg => op_call (l := [.tmp 14]) rfl kN41 (.cons (opd_g hg rfl) .nil) (impl_ValidName_w (gh hg p4))) <|
  sc rfl (op_and rfl (tp rfl) (opd_tmp rfl)) <|
  sc rfl (oA rfl (tp rfl)) <| .nil) [6] rfl (fun a8 w8 st8 => ?_)
 refine wp_ret ?_
 exact st8.ret rfl rfl h7
def m_impl_unique_s0 (x0 : List Str) (s5 : (List Str) × Int) : Option (((List Str) × Int) ⊕ (List Str)) :=
if (cmpI .lss s5.2 (x0.length : Int)) = true then (Option.bind (α := (List Str)) ((atI x0 s5.2).bind fun v11 =>
(m_slices_Contains_string_string s5.1 v11).bind fun v14 =>
if (!v14) = true then ((appO 16 s5.1 ([v11] : List Str)).bind fun v22 =>
some v22)
else (some s5.1)) fun o10 =>
(i64 (s5.2 + (1 : Int))).bind fun v26 =>
some (.inl (o10, v26)))
else (some (.inr s5.1))
def m_impl_unique (x0 : List Str) : Option (List Str) :=
Option.bind (α := (List Str)) (loopM (fun s5 => m_impl_unique_s0 x0 s5) ([], (0 : Int))) fun o3 =>
some o3
theorem impl_unique_w {x0 : List Str} {r : List Str} (h : m_impl_unique x0 = some r) : FnOwn Tryz.prog 78 [dt x0] 9 r := by
 unfold m_impl_unique at h
 refine fnxO (fn := Tryz.f78) 1 Tryz.func78 rfl (of_decide_eq_true rfl) rfl (fun M w0 a0 st0 => ?_)
 refine st0.sq0 (
  sc rfl (oA rfl (opd_nilTip (α := Str) (e := 9))) <| .nil) [0] rfl (fun a1 w1 st1 => ?_)
 refine st1.sq (
  sc rfl (op_lit0 (α := Str) (e := 9) rfl kS36) <|
  sc rfl (oA rfl (tp rfl)) <| .nil) [0] rfl [(3, 0)] rfl ⟨iE, trivial⟩ (fun a2 w2 st2 => ?_)
 obtain ⟨o3, p3, k3⟩ := bs h
 refine wp_seq_join (fun a w => ∃ M1 q3_0, Sx (Frm.of w0) 23 M M1 [oneB q3_0] [] [(3, 0, dtip q3_0 9 o3)] a w) ?_ ?_
 ·
  refine st2.sq (
   sc rfl (oM rfl (tp rfl)) <|
   sc rfl (op_lenL rfl kL36 (tp rfl)) <|
   sc rfl (oM rfl cI) <| .nil) [7, 8, 9] rfl [(3, 0)] rfl ⟨iE, trivial⟩ (fun a4 w4 st4 => ?_)
  refine wp_block ?_
  refine loop_model p3 (fun s5 a w => ∃ M1 q5_0, Sx (Frm.of w0) 23 M M1 [oneB q5_0] [(7, dt x0), (8, dt (x0.length : Int)), (9, dt s5.2)] [(3, 0, dtip q5_0 9 s5.1)] a w) ⟨_, _, st4.sel [7, 8, 9] rfl [(3, 0)] rfl ⟨iE, trivial⟩⟩ ?_
  rintro s5 x5 a5 w5 ⟨M5, q5_0, st5⟩ hs5 hx5
  have h6 : m_impl_unique_s0 x0 s5 = some x5 := hs5
  unfold m_impl_unique_s0 at h6
  refine st5.sq (
    sc rfl (oCI rfl (tp rfl) (tp rfl)) <| .nil) [7, 8, 9, 10] rfl [(3, 0)] rfl ⟨iI, trivial⟩ (fun a7 w7 st7 => ?_)
  refine wp_seq ?_
  refine st7.cs (c := 10) rfl h6 (fun c8 h8 => ?_) (fun c9 h9 => ?_)
  ·
   refine wp_skip (then_normal ?_)
   obtain ⟨o10, p10, k10⟩ := bs h8
   refine wp_seq_join (fun a w => ∃ M1 q10_0, Sx (Frm.of w0) 23 M M1 [oneB q10_0] [(7, dt x0), (8, dt (x0.length : Int)), (9, dt s5.2)] [(3, 0, dtip q10_0 9 o10)] a w) ?_ ?_
   ·
    refine wp_block ?_
    obtain ⟨v11, p11, h12⟩ := bs p10
    refine st7.sq (
      sc rfl (xIdx rfl kS36 (tp rfl) (tp rfl) p11) <|
      sc rfl (op_load rfl kT9 (tp rfl)) <|
      sc rfl (oA rfl (tp rfl)) <| .nil) [5, 7, 8, 9] rfl [(3, 0)] rfl ⟨iI, trivial⟩ (fun a13 w13 st13 => ?_)
    obtain ⟨v14, p14, h15⟩ := bs h12
    refine st13.sq (
      sc rfl (oM rfl (tp rfl)) <|
      sc rfl (oM rfl (tp rfl)) <|
      sc rfl (op_callT (l := [.tmp 13, .tmp 14]) st13.ob.sub rfl kN90 (.cons (borrow st13.ob 0 rfl (tp rfl)) (.cons (opd2_of st13.ob.sub (tp rfl)) .nil)) (slices_Contains_string_string_w p14) flat_bool) <|
      sc rfl (op_not rfl (tp rfl)) <| .nil) [5, 7, 8, 9, 16] rfl [(3, 0)] rfl ⟨iI, trivial⟩ (fun a16 w16 st16 => ?_)
    refine st16.cs (c := 16) rfl h15 (fun c17 h17 => ?_) (fun c18 h18 => ?_)
    ·
     refine wp_region_list ?_
     refine st16.seg 3 (
       sc rfl (oM rfl (tp rfl)) <|
       sc rfl (oM rfl (tp rfl)) <|
       sc rfl (op_lit (opds := [.tmp 18]) rfl kS36 kY36 rfl rfl (by decide) (.cons (tp rfl) .nil)) <| .nil) [7, 8, 9, 19] rfl [(3, 0), (17, 0)] rfl ⟨iI, ⟨iI, trivial⟩⟩ (fun a19 w19 st19 => ?_)
     obtain ⟨v22, p22, h23⟩ := bs h17
     refine st19.app 0 rfl rfl kE36 rfl rfl rfl row_dt p22 [7, 8, 9] rfl [] rfl rfl (fun g21 M21 a21 w21 st21 => ?_)
     refine st21.seg 1 (
       sc rfl (oA rfl (tp rfl)) <| .nil) [7, 8, 9] rfl [(3, 0)] rfl ⟨iI, trivial⟩ (fun a24 w24 st24 => ?_)
     refine wpList_nil (blk_normal (then_normal ?_))
     obtain rfl := Option.some.inj h23
     exact ⟨_, _, st24.sel [7, 8, 9] rfl [(3, 0)] rfl ⟨iI, trivial⟩⟩
    ·
     refine wp_skip (blk_normal (then_normal ?_))
     obtain rfl := Option.some.inj h18
     exact ⟨_, _, st16.sel [7, 8, 9] rfl [(3, 0)] rfl ⟨iI, trivial⟩⟩
   ·
    rintro a10 w10 ⟨M10, q10_0, st10⟩
    have h25 := k10
    obtain ⟨v26, p26, h27⟩ := bs h25
    refine st10.rg (
      sc rfl (xAr rfl (tp rfl) cI p26) <|
      sc rfl (oM rfl (tp rfl)) <| .nil) [7, 8, 9] rfl [(3, 0)] rfl ⟨iI, trivial⟩ (fun a28 w28 st28 => ?_)
    refine then_normal ?_
    exact ⟨_, (Option.some.inj h27).symm, ⟨_, _, st28.sel [7, 8, 9] rfl [(3, 0)] rfl ⟨iI, trivial⟩⟩⟩
  ·
   refine wp_exit (thn_exit (thn_exit (exit_here ?_)))
   refine then_normal ?_
   have h29 := lo h9 hx5
   obtain rfl := Option.some.inj h29
   exact ⟨_, _, st7.sel [] rfl [(3, 0)] rfl ⟨iI, trivial⟩⟩
 ·
  rintro a3 w3 ⟨M3, q3_0, st3⟩
  have h30 := k3
  refine st3.sq (
   sc rfl (oM rfl (tp rfl)) <|
   sc rfl (oA rfl (tp rfl)) <| .nil) [] rfl [(2, 0)] rfl ⟨iI, trivial⟩ (fun a31 w31 st31 => ?_)
  refine wp_ret ?_
  exact st31.ret_own 0 rfl rfl iI h30
def m_impl_reach_s0 (x1 : (Str -> Option (List Str))) (s10 : (List Str) × Int) : Option (((List Str) × Int) ⊕ (List Str)) :=
if (cmpI .lss s10.2 (s10.1.length : Int)) = true then ((atI s10.1 s10.2).bind fun v16 =>
(x1 v16).bind fun v17 =>
(appO 16 s10.1 v17).bind fun v23 =>
(m_impl_unique v23).bind fun v27 =>
(i64 (s10.2 + (1 : Int))).bind fun v31 =>
some (.inl (v27, v31)))
else (some (.inr s10.1))
def m_impl_reach (x0 : List Str) (x1 : (Str -> Option (List Str))) : Option (List Str) :=
(m_impl_unique x0).bind fun v5 =>
Option.bind (α := (List Str)) (loopM (fun s10 => m_impl_reach_s0 x1 s10) (v5, (0 : Int))) fun o8 =>
some o8
theorem impl_reach_w {x0 : List Str} {x1 : (Str -> Option (List Str))} {r : List Str} (h : m_impl_reach x0 x1 = some r) : FnOwn Tryz.prog 75 [dt x0, dfn1 Tryz.prog x1] 9 r := by
 unfold m_impl_reach at h
 refine fnxO (fn := Tryz.f75) 1 Tryz.func75 rfl (of_decide_eq_true rfl) rfl (fun M w0 a0 st0 => ?_)
 refine st0.sq0 (
  sc rfl (oA rfl (opd_nilTip (α := Str) (e := 9))) <| .nil) [0, 1] rfl (fun a1 w1 st1 => ?_)
 refine wp_seq (wp_region_list ?_)
 refine st1.seg 1 (
  sc rfl (oM rfl (tp rfl)) <| .nil) [1, 7] rfl [] rfl trivial (fun a2 w2 st2 => ?_)
 obtain ⟨v5, p5, h6⟩ := bs h
 refine st2.own (l := [.tmp 7]) 0 rfl rfl kN78 (.cons (tp rfl) .nil) (impl_unique_w p5) (by simp) [1] rfl [] rfl rfl (fun g4 M4 a4 w4 st4 => ?_)
 refine st4.seg 1 (
  sc rfl (oA rfl (tp rfl)) <| .nil) [1] rfl [(5, 0)] rfl ⟨iI, trivial⟩ (fun a7 w7 st7 => ?_)
 refine wpList_nil (then_normal ?_)
 obtain ⟨o8, p8, k8⟩ := bs h6
 refine wp_seq_join (fun a w => ∃ M1 q8_0, Sx (Frm.of w0) 25 M M1 [oneB q8_0] [] [(5, 0, dtip q8_0 9 o8)] a w) ?_ ?_
 ·
  refine st7.sq (
   sc rfl (oA rfl cI) <| .nil) [1, 6] rfl [(5, 0)] rfl ⟨iI, trivial⟩ (fun a9 w9 st9 => ?_)
  refine wp_block ?_
  refine loop_model p8 (fun s10 a w => ∃ M1 q10_0, Sx (Frm.of w0) 25 M M1 [oneB q10_0] [(6, dt s10.2), (1, dfn1 Tryz.prog x1)] [(5, 0, dtip q10_0 9 s10.1)] a w) ⟨_, _, st9.sel [6, 1] rfl [(5, 0)] rfl ⟨iI, trivial⟩⟩ ?_
  rintro s10 x10 a10 w10 ⟨M10, q10_0, st10⟩ hs10 hx10
  have h11 : m_impl_reach_s0 x1 s10 = some x10 := hs10
  unfold m_impl_reach_s0 at h11
  refine wp_seq ?_
  refine st10.sq (
    sc rfl (oM rfl (tp rfl)) <|
    sc rfl (oM rfl (tp rfl)) <|
    sc rfl (op_lenT rfl kL36 (tp rfl)) <|
    sc rfl (oCI rfl (tp rfl) (tp rfl)) <| .nil) [1, 6, 12] rfl [(5, 0)] rfl ⟨iI, trivial⟩ (fun a12 w12 st12 => ?_)
  refine st12.cs (c := 12) rfl h11 (fun c13 h13 => ?_) (fun c14 h14 => ?_)
  ·
   refine wp_skip (then_normal (wp_seq (wp_block (wp_region_list ?_))))
   obtain ⟨v16, p16, h18⟩ := bs h13
   obtain ⟨v17, p17, h19⟩ := bs h18
   refine st12.seg 7 (
     sc rfl (oM rfl (tp rfl)) <|
     sc rfl (oM rfl (tp rfl)) <|
     sc rfl (oM rfl (tp rfl)) <|
     sc rfl (oM rfl (tp rfl)) <|
     sc rfl (xIdxT rfl kS36 (tp rfl) (tp rfl) p16) <|
     sc rfl (op_loadBox rfl kT9 (tp rfl)) <|
     sc rfl (xCaF1 rfl (tp rfl) (tp rfl) p17) <| .nil) [1, 6, 21] rfl [(5, 0), (15, 0)] rfl ⟨iI, ⟨iI, trivial⟩⟩ (fun a20 w20 st20 => ?_)
   obtain ⟨v23, p23, h24⟩ := bs h19
   refine st20.app 0 rfl rfl kE36 rfl rfl rfl row_dt p23 [1, 6] rfl [] rfl rfl (fun g22 M22 a22 w22 st22 => ?_)
   obtain ⟨v27, p27, h28⟩ := bs h24
   have st29 := st22.frz 0 (s := 22) rfl rfl [1, 6] rfl [] rfl
   refine st29.own (l := [.tmp 22]) 0 rfl rfl kN78 (.cons (tp rfl) .nil) (impl_unique_w p27) (by simp) [1, 6] rfl [] rfl rfl (fun g26 M26 a26 w26 st26 => ?_)
   refine st26.seg 1 (
     sc rfl (oA rfl (tp rfl)) <| .nil) [1, 6] rfl [(5, 0)] rfl ⟨iI, trivial⟩ (fun a30 w30 st30 => ?_)
   refine wpList_nil (blk_normal (then_normal ?_))
   obtain ⟨v31, p31, h32⟩ := bs h28
   refine st30.rg (
     sc rfl (oM rfl (tp rfl)) <|
     sc rfl (xAr rfl (tp rfl) cI p31) <|
     sc rfl (oA rfl (tp rfl)) <| .nil) [1, 6] rfl [(5, 0)] rfl ⟨iI, trivial⟩ (fun a33 w33 st33 => ?_)
   refine then_normal ?_
   exact ⟨_, (Option.some.inj h32).symm, ⟨_, _, st33.sel [6, 1] rfl [(5, 0)] rfl ⟨iI, trivial⟩⟩⟩
  ·
   refine wp_exit (thn_exit (thn_exit (exit_here ?_)))
   refine then_normal ?_
   have h34 := lo h14 hx10
   obtain rfl := Option.some.inj h34
   exact ⟨_, _, st12.sel [] rfl [(5, 0)] rfl ⟨iI, trivial⟩⟩
 ·
  rintro a8 w8 ⟨M8, q8_0, st8⟩
  have h35 := k8
  refine st8.sq (
   sc rfl (oM rfl (tp rfl)) <|
   sc rfl (oA rfl (tp rfl)) <| .nil) [] rfl [(4, 0)] rfl ⟨iI, trivial⟩ (fun a36 w36 st36 => ?_)
  refine wp_ret ?_
  exact st36.ret_own 0 rfl rfl iI h35
def m_impl_ResolveName_s0 (s17 : Str × Int) : Option ((Str × Int) ⊕ Str) :=
if (cmpI .gtr s17.2 (1 : Int) && decide (s17.1 ≠ (⟨[]⟩ : Str))) = true then ((m_impl_ParentOf s17.1).bind fun v22 =>
(i64 (s17.2 - (1 : Int))).bind fun v25 =>
some (.inl (v22, v25)))
else (some (.inr s17.1))
def m_impl_ResolveName (x0 : Str) (x1 : Int) (x2 : Str) : Option Str :=
(m_impl_packageOk x0).bind fun v2 =>
(gO ((!v2) == false) (m_impl_packageOk x2)).bind fun v3 =>
(gO (((!v2) || (!v3)) == false) (m_impl_within x1 (0 : Int) (4 : Int))).bind fun v4 =>
if (((!v2) || (!v3)) || (!v4)) = true then (some (⟨[]⟩ : Str))
else (if (cmpI .eql x1 (0 : Int)) = true then (some x2)
else (Option.bind (α := Str) (loopM (fun s17 => m_impl_ResolveName_s0 s17) (x0, x1)) fun o16 =>
if (decide (o16 = (⟨[]⟩ : Str))) = true then (some (⟨[]⟩ : Str))
else (Option.bind (α := Str) (if (decide (x2 ≠ (⟨[]⟩ : Str))) = true then ((catO (⟨[46]⟩ : Str) x2).bind fun v38 =>
(catO o16 v38).bind fun v39 =>
some v39)
else (some o16)) fun o34 =>
(m_impl_ValidName o34).bind fun v44 =>
if (!v44) = true then (some (⟨[]⟩ : Str))
else (some o34))))
theorem impl_ResolveName_w {x0 : Str} {x1 : Int} {x2 : Str} {r : Str} (h : m_impl_ResolveName x0 x1 x2 = some r) : Fn Tryz.prog 119 [dt x0, dt x1, dt x2] (dt r) := by
 unfold m_impl_ResolveName at h
 refine fnx (fn := Tryz.f119) 0 Tryz.func119 rfl (of_decide_eq_true rfl) rfl (fun M w0 a0 st0 => ?_)
 refine st0.sq0 (
  sc rfl (oA rfl (opd_str (by decide))) <| .nil) [0, 1, 2] rfl (fun a1 w1 st1 => ?_)
 refine wp_seq ?_
 obtain ⟨v2, p2, h5⟩ := bs h
 obtain ⟨v3, p3, h6⟩ := bs h5
 obtain ⟨v4, p4, h7⟩ := bs h6
 refine st1.sq0 (
  sc rfl (oM rfl (tp rfl)) <|
  sc rfl (op_call (l := [.tmp 7]) rfl kN125 (.cons (tp rfl) .nil) (impl_packageOk_w p2)) <|
  sc rfl (op_not rfl (tp rfl)) <|
  sc rfl (oM rfl (tp rfl)) <|
  sg rfl rfl (fun hg => oM rfl (tp rfl)) <|
  sg rfl rfl (fun hg => op_call (l := [.tmp 11]) rfl kN125 (.cons (opd_g hg rfl) .nil) (impl_packageOk_w (gh hg p3))) <|
  sg rfl rfl (fun hg => op_not rfl (opd_g hg rfl)) <|
  sc rfl (op_or rfl (tp rfl) (opd_tmp rfl)) <|
  sc rfl (oM rfl (tp rfl)) <|
  sg rfl rfl (fun hg => oM rfl (tp rfl)) <|
  sg rfl rfl (fun hg => op_call (l := [.tmp 16, .const (.int .i64 0), .const (.int .i64 4)]) rfl kN84 (.cons (opd_g hg rfl) (.cons cI (.cons cI .nil))) (impl_within_w (gh hg p4))) <|
  sg rfl rfl (fun hg => op_not rfl (opd_g hg rfl)) <|
  sc rfl (op_or rfl (tp rfl) (opd_tmp rfl)) <| .nil) [0, 1, 2, 19] rfl (fun a8 w8 st8 => ?_)
 refine st8.cs (c := 19) rfl h7 (fun c9 h9 => ?_) (fun c10 h10 => ?_)
 ·
  refine st8.sq0 (
   sc rfl (oA rfl (opd_str (by decide))) <| .nil) [6] rfl (fun a11 w11 st11 => ?_)
  refine wp_ret (thn_ret ?_)
  exact st11.ret rfl rfl h9
 ·
  refine wp_skip (then_normal (wp_seq ?_))
  refine st8.sq0 (
   sc rfl (oM rfl (tp rfl)) <|
   sc rfl (oCI rfl (tp rfl) cI) <| .nil) [0, 1, 2, 21] rfl (fun a12 w12 st12 => ?_)
  refine st12.cs (c := 21) rfl h10 (fun c13 h13 => ?_) (fun c14 h14 => ?_)
  ·
   refine st12.sq0 (
    sc rfl (oM rfl (tp rfl)) <|
    sc rfl (oA rfl (tp rfl)) <| .nil) [6] rfl (fun a15 w15 st15 => ?_)
   refine wp_ret (thn_ret ?_)
   exact st15.ret rfl rfl h13
  ·
   refine wp_skip (then_normal ?_)
   obtain ⟨o16, p16, k16⟩ := bs h14
   refine wp_seq_join (fun a w => Sx (Frm.of w0) 45 M M [] [(0, dt o16), (2, dt x2)] [] a w) ?_ ?_
   ·
    refine wp_block ?_
    refine loop_model p16 (fun s17 a w => Sx (Frm.of w0) 45 M M [] [(0, dt s17.1), (1, dt s17.2), (2, dt x2)] [] a w) (st12.sel0 [0, 1, 2] rfl) ?_
    rintro s17 x17 a17 w17 st17 hs17 hx17
    have h18 : m_impl_ResolveName_s0 s17 = some x17 := hs17
    unfold m_impl_ResolveName_s0 at h18
    refine wp_seq ?_
    refine st17.sq0 (
      sc rfl (oM rfl (tp rfl)) <|
      sc rfl (oCI rfl (tp rfl) cI) <|
      sc rfl (oM rfl (tp rfl)) <|
      sg rfl rfl (fun hg => oM rfl (tp rfl)) <|
      sg rfl rfl (fun hg => op_neS rfl (opd_g hg rfl) (opd_str (by decide))) <|
      sc rfl (op_and rfl (tp rfl) (opd_tmp rfl)) <| .nil) [0, 1, 2, 28] rfl (fun a19 w19 st19 => ?_)
    refine st19.cs (c := 28) rfl h18 (fun c20 h20 => ?_) (fun c21 h21 => ?_)
    ·
     refine wp_skip (then_normal (wp_seq (wp_block ?_)))
     obtain ⟨v22, p22, h23⟩ := bs h20
     refine st19.rg0 (
       sc rfl (oM rfl (tp rfl)) <|
       sc rfl (op_call (l := [.tmp 31]) rfl kN68 (.cons (tp rfl) .nil) (impl_ParentOf_w p22)) <|
       sc rfl (oA rfl (tp rfl)) <| .nil) [0, 1, 2] rfl (fun a24 w24 st24 => ?_)
     refine blk_normal (then_normal ?_)
     obtain ⟨v25, p25, h26⟩ := bs h23
     refine st24.rg0 (
       sc rfl (oM rfl (tp rfl)) <|
       sc rfl (xAr rfl (tp rfl) cI p25) <|
       sc rfl (oA rfl (tp rfl)) <| .nil) [0, 1, 2] rfl (fun a27 w27 st27 => ?_)
     refine then_normal ?_
     exact ⟨_, (Option.some.inj h26).symm, st27.sel0 [0, 1, 2] rfl⟩
    ·
     refine wp_exit (thn_exit (thn_exit (exit_here ?_)))
     refine then_normal ?_
     have h28 := lo h21 hx17
     obtain rfl := Option.some.inj h28
     exact st19.sel0 [0, 2] rfl
   ·
    rintro a16 w16 st16
    have h29 := k16
    refine wp_seq ?_
    refine st16.sq0 (
     sc rfl (oM rfl (tp rfl)) <|
     sc rfl (op_eqS rfl (tp rfl) (opd_str (by decide))) <| .nil) [0, 2, 34] rfl (fun a30 w30 st30 => ?_)
    refine st30.cs (c := 34) rfl h29 (fun c31 h31 => ?_) (fun c32 h32 => ?_)
    ·
     refine st30.sq0 (
      sc rfl (oA rfl (opd_str (by decide))) <| .nil) [6] rfl (fun a33 w33 st33 => ?_)
     refine wp_ret (thn_ret ?_)
     exact st33.ret rfl rfl h31
    ·
     refine wp_skip (then_normal ?_)
     obtain ⟨o34, p34, k34⟩ := bs h32
     refine wp_seq_join (fun a w => Sx (Frm.of w0) 45 M M [] [(0, dt o34)] [] a w) ?_ ?_
     ·
      refine st30.sq0 (
       sc rfl (oM rfl (tp rfl)) <|
       sc rfl (op_neS rfl (tp rfl) (opd_str (by decide))) <| .nil) [0, 2, 36] rfl (fun a35 w35 st35 => ?_)
      refine st35.cs (c := 36) rfl p34 (fun c36 h36 => ?_) (fun c37 h37 => ?_)
      ·
       obtain ⟨v38, p38, h40⟩ := bs h36
       obtain ⟨v39, p39, h41⟩ := bs h40
       refine st35.rg0 (
        sc rfl (oM rfl (tp rfl)) <|
        sc rfl (oM rfl (tp rfl)) <|
        sc rfl (xCat rfl (opd_str (by decide)) (tp rfl) p38) <|
        sc rfl (xCat rfl (tp rfl) (tp rfl) p39) <|
        sc rfl (oA rfl (tp rfl)) <| .nil) [0] rfl (fun a42 w42 st42 => ?_)
       refine then_normal ?_
       obtain rfl := Option.some.inj h41
       exact st42.sel0 [0] rfl
      ·
       refine wp_skip (then_normal ?_)
       obtain rfl := Option.some.inj h37
       exact st35.sel0 [0] rfl
     ·
      rintro a34 w34 st34
      have h43 := k34
      refine wp_seq ?_
      obtain ⟨v44, p44, h45⟩ := bs h43
      refine st34.sq0 (
       sc rfl (oM rfl (tp rfl)) <|
       sc rfl (op_call (l := [.tmp 41]) rfl kN41 (.cons (tp rfl) .nil) (impl_ValidName_w p44)) <|
       sc rfl (op_not rfl (tp rfl)) <| .nil) [0, 43] rfl (fun a46 w46 st46 => ?_)
      refine st46.cs (c := 43) rfl h45 (fun c47 h47 => ?_) (fun c48 h48 => ?_)
      ·
       refine st46.sq0 (
        sc rfl (oA rfl (opd_str (by decide))) <| .nil) [6] rfl (fun a49 w49 st49 => ?_)
       refine wp_ret (thn_ret ?_)
       exact st49.ret rfl rfl h47
      ·
       refine wp_skip (then_normal ?_)
       refine st46.sq0 (
        sc rfl (oM rfl (tp rfl)) <|
        sc rfl (oA rfl (tp rfl)) <| .nil) [6] rfl (fun a50 w50 st50 => ?_)
       refine wp_ret ?_
       exact st50.ret rfl rfl h48
def m_impl_Module_packageOf (x0 : GMod) : Option Str :=
if (cmpI .eql x0.kind (1 : Int)) = true then ((m_impl_ParentOf x0.name).bind fun v5 =>
some v5)
else (some x0.name)
theorem impl_Module_packageOf_w {x0 : GMod} {r : Str} (h : m_impl_Module_packageOf x0 = some r) : Fn Tryz.prog 120 [dptr x0] (dt r) := by
 unfold m_impl_Module_packageOf at h
 refine fnx (fn := Tryz.f120) 0 Tryz.func120 rfl (of_decide_eq_true rfl) rfl (fun M w0 a0 st0 => ?_)
 refine st0.sq0 (
  sc rfl (oA rfl (opd_str (by decide))) <| .nil) [0] rfl (fun a1 w1 st1 => ?_)
 refine wp_seq ?_
 refine st1.sq0 (
  sc rfl (oM rfl (tp rfl)) <|
  sc rfl (xNcP rfl (tp rfl)) <|
  sc rfl (op_field GMod.fld1 rfl kF106_1 (tp rfl)) <|
  sc rfl (op_load rfl kT3 (tp rfl)) <|
  sc rfl (oCI rfl (tp rfl) cI) <| .nil) [0, 7] rfl (fun a2 w2 st2 => ?_)
 refine st2.cs (c := 7) rfl h (fun c3 h3 => ?_) (fun c4 h4 => ?_)
 ·
  obtain ⟨v5, p5, h6⟩ := bs h3
  refine st2.sq0 (
   sc rfl (oM rfl (tp rfl)) <|
   sc rfl (xNcP rfl (tp rfl)) <|
   sc rfl (op_field GMod.fld0 rfl kF106_0 (tp rfl)) <|
   sc rfl (op_load rfl kT9 (tp rfl)) <|
   sc rfl (op_call (l := [.tmp 11]) rfl kN68 (.cons (tp rfl) .nil) (impl_ParentOf_w p5)) <|
   sc rfl (oA rfl (tp rfl)) <| .nil) [2] rfl (fun a7 w7 st7 => ?_)
  refine wp_ret (thn_ret ?_)
  exact st7.ret rfl rfl h6
 ·
  refine wp_skip (then_normal ?_)
  refine st2.sq0 (
   sc rfl (oM rfl (tp rfl)) <|
   sc rfl (xNcP rfl (tp rfl)) <|
   sc rfl (op_field GMod.fld0 rfl kF106_0 (tp rfl)) <|
   sc rfl (op_load rfl kT9 (tp rfl)) <|
   sc rfl (oA rfl (tp rfl)) <| .nil) [2] rfl (fun a8 w8 st8 => ?_)
  refine wp_ret ?_
  exact st8.ret rfl rfl h4
def m_impl_NeedsOf_s0 (x2 : Str) (v3 : Spec) (v24 : File) (s27 : (List Str) × Int) : Option (((List Str) × Int) ⊕ (List Str)) :=
if (cmpI .lss s27.2 (v24.body.length : Int)) = true then (Option.bind (α := (List Str)) ((atI v24.body s27.2).bind fun v33 =>
Option.bind (α := Bool) (if (cmpI .eql v33.kind (0 : Int)) = true then (some (cmpI .eql v33.kind (0 : Int)))
else (some (cmpI .eql v33.kind (2 : Int)))) fun o42 =>
if o42 = true then ((appO 16 s27.1 ([v33.module] : List Str)).bind fun v53 =>
some v53)
else (if (cmpI .eql v33.kind (1 : Int)) = true then ((m_impl_Module_packageOf (⟨x2, v3.kind, [], false, false, []⟩ : GMod)).bind fun v60 =>
(m_impl_ResolveName v60 v33.level v33.module).bind fun v61 =>
if (decide (v61 ≠ (⟨[]⟩ : Str))) = true then ((appO 16 s27.1 ([v61] : List Str)).bind fun v71 =>
some v71)
else (some s27.1))
else (some s27.1))) fun o32 =>
(i64 (s27.2 + (1 : Int))).bind fun v76 =>
some (.inl (o32, v76)))
else (some (.inr s27.1))
def m_impl_NeedsOf (x0 : Tree) (x1 : List Int) (x2 : Str) : Option (List Str) :=
(m_impl_FindSpec x0 x1 x2).bind fun v3 =>
if (cmpI .lss v3.file (0 : Int)) = true then (some [])
else (Option.bind (α := (List Str)) ((atI x0.files v3.file).bind fun v24 =>
loopM (fun s27 => m_impl_NeedsOf_s0 x2 v3 v24 s27) ([], (0 : Int))) fun o23 =>
(m_impl_unique o23).bind fun v85 =>
some v85)
theorem impl_NeedsOf_w {x0 : Tree} {x1 : List Int} {x2 : Str} {r : List Str} (h : m_impl_NeedsOf x0 x1 x2 = some r) : FnOwn Tryz.prog 77 [dt x0, dt x1, dt x2] 9 r := by
 unfold m_impl_NeedsOf at h
 refine fnxO (fn := Tryz.f77) 4 Tryz.func77 rfl (of_decide_eq_true rfl) rfl (fun M w0 a0 st0 => ?_)
 refine st0.sq0 (
  sc rfl (op_box rfl (tp rfl)) <|
  sc rfl (oA rfl (opd_nilTip (α := Str) (e := 9))) <| .nil) [1, 2, 3] rfl (fun a1 w1 st1 => ?_)
 refine st1.sq (
  sc rfl (op_lit0 (α := Str) (e := 9) rfl kS36) <|
  sc rfl (oA rfl (tp rfl)) <| .nil) [1, 2, 3] rfl [(7, 0)] rfl ⟨iE, trivial⟩ (fun a2 w2 st2 => ?_)
 refine wp_seq (wp_region_list ?_)
 obtain ⟨v3, p3, h4⟩ := bs h
 refine st2.seg 4 (
  sc rfl (op_load rfl kT30 (tp rfl)) <|
  sc rfl (oM rfl (tp rfl)) <|
  sc rfl (oM rfl (tp rfl)) <|
  sc rfl (op_call (l := [.tmp 14, .tmp 15, .tmp 16]) rfl kN59 (.cons (tp rfl) (.cons (tp rfl) (.cons (tp rfl) .nil))) (impl_FindSpec_w p3)) <| .nil) [2, 3, 17] rfl [(7, 0)] rfl ⟨iE, trivial⟩ (fun a5 w5 st5 => ?_)
 refine st5.alloc 1 rfl rfl kZ56 zrSpec (by simp) [2, 3, 17] rfl [7] rfl rfl (fun b7 M7 a7 w7 st7 => ?_)
 have st8 := st7.gs (Gs' := [oneB none, oneB (some b7), oneB none, oneB none]) rfl
 refine st8.store (sb := 8) 1 FldS.id rfl rfl rfl kT56 rfl rfl (tp rfl) rfl [2, 3] rfl [7] rfl rfl (fun M10 w10 st10 => ?_)
 refine wpList_nil (then_normal (wp_seq ?_))
 refine st10.sq (
  sc rfl (op_fieldBox Spec.fld1 rfl kF56_1 (tp rfl)) <|
  sc rfl (op_loadBox rfl kT3 (tp rfl)) <|
  sc rfl (oCI rfl (tp rfl) cI) <| .nil) [2, 3, 20] rfl [(7, 0), (8, 1)] rfl ⟨iE, ⟨iI, trivial⟩⟩ (fun a11 w11 st11 => ?_)
 refine st11.cs (c := 20) rfl h4 (fun c12 h12 => ?_) (fun c13 h13 => ?_)
 ·
  refine st11.sq (
   sc rfl (oM rfl (tp rfl)) <|
   sc rfl (oA rfl (tp rfl)) <| .nil) [] rfl [(6, 0)] rfl ⟨iE, trivial⟩ (fun a14 w14 st14 => ?_)
  refine wp_ret (thn_ret ?_)
  exact st14.ret_own 0 rfl rfl iE h12
 ·
  refine wp_skip (then_normal (wp_seq (wp_region_list ?_)))
  refine st11.seg 4 (
   sc rfl (oM rfl (tp rfl)) <|
   sc rfl (op_fieldBox Spec.fld0 rfl kF56_0 (tp rfl)) <|
   sc rfl (op_loadBox rfl kT3 (tp rfl)) <|
   sc rfl (op_build (parts := [(0, .tmp 22), (1, .tmp 24)]) (ns := [1, 1, 1, 1, 1, 1]) (zs := zpGMod) rfl rfl kB106 kC106 (fun w a hl => by
 intro p hp; simp only [List.mem_cons, List.not_mem_nil, or_false] at hp
 rcases hp with rfl | rfl
 ·
  exact ⟨by decide, Rep.len (α := Str) (OpdR.cells (tp rfl) hl)⟩
 ·
  exact ⟨by decide, Rep.len (α := Int) (OpdR.cells (tp rfl) hl)⟩) (fun w a hl => GMod.parts (x := (⟨x2, v3.kind, [], false, false, []⟩ : GMod)) (OpdR.cells (tp rfl) hl) (OpdR.cells (tp rfl) hl) zero_list ⟨rfl, trivial⟩ ⟨rfl, trivial⟩ zero_list)) <| .nil) [3, 25] rfl [(7, 0), (8, 1)] rfl ⟨iE, ⟨iI, trivial⟩⟩ (fun a15 w15 st15 => ?_)
  refine st15.alloc 2 rfl rfl kZ106 zrGMod (by simp) [3, 25] rfl [7, 8] rfl rfl (fun b17 M17 a17 w17 st17 => ?_)
  have st18 := st17.gs (Gs' := [oneB none, oneB (some b7), oneB (some b17), oneB none]) rfl
  refine st18.store (sb := 9) 2 FldS.id rfl rfl rfl kT106 rfl rfl (tp rfl) rfl [3] rfl [7, 8] rfl rfl (fun M20 w20 st20 => ?_)
  have st21 := st20.frzX 2 (s := 9) rfl rfl [3] rfl [7, 8] rfl
  have st22 := st21.gs (Gs' := [oneB none, oneB (some b7), oneB none, oneB none]) rfl
  refine wpList_nil (then_normal ?_)
  obtain ⟨o23, p23, k23⟩ := bs h13
  refine wp_seq_join (fun a w => ∃ M1 q23_0 q23_1 q23_2 q23_3, Sx (Frm.of w0) 65 M M1 [oneB q23_0, oneB q23_1, oneB q23_2, oneB q23_3] [] [(7, 0, dtip q23_0 9 o23)] a w) ?_ ?_
  ·
   obtain ⟨v24, p24, h25⟩ := bs p23
   refine st22.sq (
    sc rfl (op_field Tree.fld0 rfl kF30_0 (tp rfl)) <|
    sc rfl (op_load rfl kT28 (tp rfl)) <|
    sc rfl (op_fieldBox Spec.fld1 rfl kF56_1 (tp rfl)) <|
    sc rfl (op_loadBox rfl kT3 (tp rfl)) <|
    sc rfl (xIdx rfl kS28 (tp rfl) (tp rfl) p24) <|
    sc rfl (op_field File.fld5 rfl kF61_5 (tp rfl)) <|
    sc rfl (op_load rfl kT59 (tp rfl)) <|
    sc rfl (op_lenL rfl kL59 (tp rfl)) <|
    sc rfl (oM rfl cI) <| .nil) [9, 32, 33, 34] rfl [(7, 0)] rfl ⟨iE, trivial⟩ (fun a26 w26 st26 => ?_)
   refine wp_block ?_
   refine loop_model h25 (fun s27 a w => ∃ M1 q27_0 q27_1 q27_2 q27_3, Sx (Frm.of w0) 65 M M1 [oneB q27_0, oneB q27_1, oneB q27_2, oneB q27_3] [(9, dptr (⟨x2, v3.kind, [], false, false, []⟩ : GMod)), (32, dt v24.body), (33, dt (v24.body.length : Int)), (34, dt s27.2)] [(7, 0, dtip q27_0 9 s27.1)] a w) ⟨_, _, _, _, _, st26.sel [9, 32, 33, 34] rfl [(7, 0)] rfl ⟨iE, trivial⟩⟩ ?_
   rintro s27 x27 a27 w27 ⟨M27, q27_0, q27_1, q27_2, q27_3, st27⟩ hs27 hx27
   have h28 : m_impl_NeedsOf_s0 x2 v3 v24 s27 = some x27 := hs27
   unfold m_impl_NeedsOf_s0 at h28
   refine st27.sq (
     sc rfl (oCI rfl (tp rfl) (tp rfl)) <| .nil) [9, 32, 33, 34, 35] rfl [(7, 0)] rfl ⟨iI, trivial⟩ (fun a29 w29 st29 => ?_)
   refine wp_seq ?_
   refine st29.cs (c := 35) rfl h28 (fun c30 h30 => ?_) (fun c31 h31 => ?_)
   ·
    refine wp_skip (then_normal ?_)
    obtain ⟨o32, p32, k32⟩ := bs h30
    refine wp_seq_join (fun a w => ∃ M1 q32_0 q32_1 q32_2 q32_3, Sx (Frm.of w0) 65 M M1 [oneB q32_0, oneB q32_1, oneB q32_2, oneB q32_3] [(9, dptr (⟨x2, v3.kind, [], false, false, []⟩ : GMod)), (32, dt v24.body), (33, dt (v24.body.length : Int)), (34, dt s27.2)] [(7, 0, dtip q32_0 9 o32)] a w) ?_ ?_
    ·
     refine wp_block (wp_seq (wp_region_list ?_))
     obtain ⟨v33, p33, h34⟩ := bs p32
     refine st29.seg 2 (
       sc rfl (xIdx rfl kS59 (tp rfl) (tp rfl) p33) <|
       sc rfl (op_load rfl kT64 (tp rfl)) <| .nil) [9, 32, 33, 34, 37] rfl [(7, 0)] rfl ⟨iI, trivial⟩ (fun a35 w35 st35 => ?_)
     refine st35.alloc 3 rfl rfl kZ64 zrStmt (by simp) [9, 32, 33, 34, 37] rfl [7] rfl rfl (fun b37 M37 a37 w37 st37 => ?_)
     have st38 := st37.gs (Gs' := [oneB q27_0, oneB q27_1, oneB q27_2, oneB (some b37)]) rfl
     refine st38.store (sb := 11) 3 FldS.id rfl rfl rfl kT64 rfl rfl (tp rfl) rfl [9, 32, 33, 34] rfl [7] rfl rfl (fun M40 w40 st40 => ?_)
     refine wpList_nil (then_normal ?_)
     refine st40.sq (
       sc rfl (op_fieldBox Stmt.fld0 rfl kF64_0 (tp rfl)) <|
       sc rfl (op_loadBox rfl kT3 (tp rfl)) <| .nil) [9, 32, 33, 34, 39] rfl [(7, 0), (11, 3)] rfl ⟨iI, ⟨iI, trivial⟩⟩ (fun a41 w41 st41 => ?_)
     refine wp_block ?_
     obtain ⟨o42, p42, k42⟩ := bs h34
     refine wp_seq_join (fun a w => ∃ M1 q42_0 q42_1 q42_2 q42_3, Sx (Frm.of w0) 65 M M1 [oneB q42_0, oneB q42_1, oneB q42_2, oneB q42_3] [(9, dptr (⟨x2, v3.kind, [], false, false, []⟩ : GMod)), (32, dt v24.body), (33, dt (v24.body.length : Int)), (34, dt s27.2), (39, dt v33.kind), (40, dt o42)] [(7, 0, dtip q42_0 9 s27.1), (11, 3, dbox q42_3 0 v33)] a w) ?_ ?_
     ·
      refine st41.sq (
        sc rfl (oCI rfl (tp rfl) cI) <|
        sc rfl (oA rfl (tp rfl)) <| .nil) [9, 32, 33, 34, 39, 40] rfl [(7, 0), (11, 3)] rfl ⟨iI, ⟨iI, trivial⟩⟩ (fun a43 w43 st43 => ?_)
      refine st43.cs (c := 40) rfl p42 (fun c44 h44 => ?_) (fun c45 h45 => ?_)
      ·
       refine wp_skip (then_normal ?_)
       obtain rfl := Option.some.inj h44
       exact ⟨_, _, _, _, _, st43.sel [9, 32, 33, 34, 39, 40] rfl [(7, 0), (11, 3)] rfl ⟨iI, ⟨iI, trivial⟩⟩⟩
      ·
       refine st43.rg (
         sc rfl (oCI rfl (tp rfl) cI) <|
         sc rfl (oA rfl (tp rfl)) <| .nil) [9, 32, 33, 34, 39, 40] rfl [(7, 0), (11, 3)] rfl ⟨iI, ⟨iI, trivial⟩⟩ (fun a46 w46 st46 => ?_)
       refine then_normal ?_
       obtain rfl := Option.some.inj h45
       exact ⟨_, _, _, _, _, st46.sel [9, 32, 33, 34, 39, 40] rfl [(7, 0), (11, 3)] rfl ⟨iI, ⟨iI, trivial⟩⟩⟩
     ·
      rintro a42 w42 ⟨M42, q42_0, q42_1, q42_2, q42_3, st42⟩
      have h47 := k42
      refine st42.cs (c := 40) rfl h47 (fun c48 h48 => ?_) (fun c49 h49 => ?_)
      ·
       refine wp_region_list ?_
       refine st42.seg 4 (
         sc rfl (oM rfl (tp rfl)) <|
         sc rfl (op_fieldBox Stmt.fld1 rfl kF64_1 (tp rfl)) <|
         sc rfl (op_loadBox rfl kT9 (tp rfl)) <|
         sc rfl (op_lit (opds := [.tmp 45]) rfl kS36 kY36 rfl rfl (by decide) (.cons (tp rfl) .nil)) <| .nil) [9, 32, 33, 34, 46] rfl [(7, 0), (43, 0)] rfl ⟨iI, ⟨iI, trivial⟩⟩ (fun a50 w50 st50 => ?_)
       obtain ⟨v53, p53, h54⟩ := bs h48
       refine st50.app 0 rfl rfl kE36 rfl rfl rfl row_dt p53 [9, 32, 33, 34] rfl [] rfl rfl (fun g52 M52 a52 w52 st52 => ?_)
       have st55 := st52.gs (Gs' := [oneB g52, oneB q42_1, oneB q42_2, oneB q42_3]) rfl
       refine st55.seg 1 (
         sc rfl (oA rfl (tp rfl)) <| .nil) [9, 32, 33, 34] rfl [(7, 0)] rfl ⟨iI, trivial⟩ (fun a56 w56 st56 => ?_)
       refine wpList_nil (blk_normal (blk_normal (then_normal ?_)))
       obtain rfl := Option.some.inj h54
       exact ⟨_, _, _, _, _, st56.sel [9, 32, 33, 34] rfl [(7, 0)] rfl ⟨iI, trivial⟩⟩
      ·
       refine st42.sq (
         sc rfl (oCI rfl (tp rfl) cI) <|
         sc rfl (oA rfl (tp rfl)) <| .nil) [9, 32, 33, 34, 48] rfl [(7, 0), (11, 3)] rfl ⟨iI, ⟨iI, trivial⟩⟩ (fun a57 w57 st57 => ?_)
       refine st57.cs (c := 48) rfl h49 (fun c58 h58 => ?_) (fun c59 h59 => ?_)
       ·
        refine wp_seq ?_
        obtain ⟨v60, p60, h62⟩ := bs h58
        obtain ⟨v61, p61, h63⟩ := bs h62
        refine st57.dr (D := [_, _, _, _, _, _, _]) Tryz_mixed [[], [], [1], [], [3], [0, 1, 2, 3, 4], [0, 1, 2, 3, 4, 5]] [[(9, none)], [(11, none)], [(51, some 1)], [(11, none)], [(53, some 3)], [(50, some 0), (52, some 2), (54, some 4)], [(55, some 5)]] (by decide +kernel) (
         rc rfl rfl (op_call (l := [.tmp 9]) rfl kN120 (.cons (tp rfl) .nil) (impl_Module_packageOf_w p60)) <|
          rc rfl rfl (op_fieldBox Stmt.fld2 rfl kF64_2 (tp rfl)) <|
          rc rfl rfl (op_loadBox rfl kT3 (tp rfl)) <|
          rc rfl rfl (op_fieldBox Stmt.fld1 rfl kF64_1 (tp rfl)) <|
          rc rfl rfl (op_loadBox rfl kT9 (tp rfl)) <|
          rc rfl rfl (op_call (l := [.tmp 50, .tmp 52, .tmp 54]) rfl kN119 (.cons (tp rfl) (.cons (tp rfl) (.cons (tp rfl) .nil))) (impl_ResolveName_w p61)) <|
          rc rfl rfl (oA rfl (tp rfl)) <| .nil) [9, 12, 32, 33, 34] rfl [(7, 0)] rfl ⟨iI, trivial⟩ (fun a64 w64 st64 => ?_)
        refine then_normal ?_
        refine st64.sq (
          sc rfl (oM rfl (tp rfl)) <|
          sc rfl (op_neS rfl (tp rfl) (opd_str (by decide))) <| .nil) [9, 12, 32, 33, 34, 57] rfl [(7, 0)] rfl ⟨iI, trivial⟩ (fun a65 w65 st65 => ?_)
        refine st65.cs (c := 57) rfl h63 (fun c66 h66 => ?_) (fun c67 h67 => ?_)
        ·
         refine wp_region_list ?_
         refine st65.seg 3 (
           sc rfl (oM rfl (tp rfl)) <|
           sc rfl (oM rfl (tp rfl)) <|
           sc rfl (op_lit (opds := [.tmp 59]) rfl kS36 kY36 rfl rfl (by decide) (.cons (tp rfl) .nil)) <| .nil) [9, 32, 33, 34, 60] rfl [(7, 0), (58, 0)] rfl ⟨iI, ⟨iI, trivial⟩⟩ (fun a68 w68 st68 => ?_)
         obtain ⟨v71, p71, h72⟩ := bs h66
         refine st68.app 0 rfl rfl kE36 rfl rfl rfl row_dt p71 [9, 32, 33, 34] rfl [] rfl rfl (fun g70 M70 a70 w70 st70 => ?_)
         have st73 := st70.gs (Gs' := [oneB g70, oneB q42_1, oneB q42_2, oneB q42_3]) rfl
         refine st73.seg 1 (
           sc rfl (oA rfl (tp rfl)) <| .nil) [9, 32, 33, 34] rfl [(7, 0)] rfl ⟨iI, trivial⟩ (fun a74 w74 st74 => ?_)
         refine wpList_nil (blk_normal (blk_normal (then_normal ?_)))
         obtain rfl := Option.some.inj h72
         exact ⟨_, _, _, _, _, st74.sel [9, 32, 33, 34] rfl [(7, 0)] rfl ⟨iI, trivial⟩⟩
        ·
         refine wp_skip (blk_normal (blk_normal (then_normal ?_)))
         obtain rfl := Option.some.inj h67
         exact ⟨_, _, _, _, _, st65.sel [9, 32, 33, 34] rfl [(7, 0)] rfl ⟨iI, trivial⟩⟩
       ·
        refine wp_skip (blk_normal (blk_normal (then_normal ?_)))
        obtain rfl := Option.some.inj h59
        exact ⟨_, _, _, _, _, st57.sel [9, 32, 33, 34] rfl [(7, 0)] rfl ⟨iI, trivial⟩⟩
    ·
     rintro a32 w32 ⟨M32, q32_0, q32_1, q32_2, q32_3, st32⟩
     have h75 := k32
     obtain ⟨v76, p76, h77⟩ := bs h75
     refine st32.rg (
       sc rfl (xAr rfl (tp rfl) cI p76) <|
       sc rfl (oM rfl (tp rfl)) <| .nil) [9, 32, 33, 34] rfl [(7, 0)] rfl ⟨iI, trivial⟩ (fun a78 w78 st78 => ?_)
     refine then_normal ?_
     exact ⟨_, (Option.some.inj h77).symm, ⟨_, _, _, _, _, st78.sel [9, 32, 33, 34] rfl [(7, 0)] rfl ⟨iI, trivial⟩⟩⟩
   ·
    refine wp_exit (thn_exit (thn_exit (exit_here ?_)))
    refine then_normal ?_
    have h79 := lo h31 hx27
    obtain rfl := Option.some.inj h79
    exact ⟨_, _, _, _, _, st29.sel [] rfl [(7, 0)] rfl ⟨iI, trivial⟩⟩
  ·
   rintro a23 w23 ⟨M23, q23_0, q23_1, q23_2, q23_3, st23⟩
   have h80 := k23
   have st81 := st23.frz 0 (s := 7) rfl rfl [] rfl [] rfl
   refine wp_seq (wp_region_list ?_)
   refine st81.seg 1 (
    sc rfl (oM rfl (tp rfl)) <| .nil) [63] rfl [] rfl trivial (fun a82 w82 st82 => ?_)
   obtain ⟨v85, p85, h86⟩ := bs h80
   refine st82.own (l := [.tmp 63]) 0 rfl rfl kN78 (.cons (tp rfl) .nil) (impl_unique_w p85) (by simp) [] rfl [] rfl rfl (fun g84 M84 a84 w84 st84 => ?_)
   have st87 := st84.gs (Gs' := [oneB g84, oneB q23_1, oneB q23_2, oneB q23_3]) rfl
   refine st87.seg 1 (
    sc rfl (oA rfl (tp rfl)) <| .nil) [] rfl [(6, 0)] rfl ⟨iI, trivial⟩ (fun a88 w88 st88 => ?_)
   refine wpList_nil (then_normal (wp_ret ?_))
   exact st88.ret_own 0 rfl rfl iI h86
def m_impl_EdgesOf_s0 (v4 : List Str) (s7 : (List Str) × Int) : Option (((List Str) × Int) ⊕ (List Str)) :=
if (cmpI .lss s7.2 (v4.length : Int)) = true then ((atI v4 s7.2).bind fun v12 =>
(m_impl_NamesAbove v12).bind fun v15 =>
(appO 16 s7.1 v15).bind fun v20 =>
(i64 (s7.2 + (1 : Int))).bind fun v23 =>
some (.inl (v20, v23)))
else (some (.inr s7.1))
def m_impl_EdgesOf (x0 : Tree) (x1 : List Int) (x2 : Str) : Option (List Str) :=
Option.bind (α := (List Str)) ((m_impl_NeedsOf x0 x1 x2).bind fun v4 =>
loopM (fun s7 => m_impl_EdgesOf_s0 v4 s7) ([], (0 : Int))) fun o3 =>
(m_impl_unique o3).bind fun v29 =>
some v29
theorem impl_EdgesOf_w {x0 : Tree} {x1 : List Int} {x2 : Str} {r : List Str} (h : m_impl_EdgesOf x0 x1 x2 = some r) : Fn Tryz.prog 33 [dt x0, dt x1, dt x2] (dt r) := by
 unfold m_impl_EdgesOf at h
 refine fnx (fn := Tryz.f33) 1 Tryz.func33 rfl (of_decide_eq_true rfl) rfl (fun M w0 a0 st0 => ?_)
 refine st0.sq0 (
  sc rfl (op_box rfl (tp rfl)) <|
  sc rfl (oA rfl (opd_nil (α := Str))) <| .nil) [1, 2, 3] rfl (fun a1 w1 st1 => ?_)
 refine st1.sq (
  sc rfl (op_lit0 (α := Str) (e := 9) rfl kS36) <|
  sc rfl (oA rfl (tp rfl)) <| .nil) [1, 2, 3] rfl [(7, 0)] rfl ⟨iE, trivial⟩ (fun a2 w2 st2 => ?_)
 obtain ⟨o3, p3, k3⟩ := bs h
 refine wp_seq_join (fun a w => ∃ M1 q3_0, Sx (Frm.of w0) 27 M M1 [oneB q3_0] [] [(7, 0, dtip q3_0 9 o3)] a w) ?_ ?_
 ·
  obtain ⟨v4, p4, h5⟩ := bs p3
  refine st2.sq (
   sc rfl (op_load rfl kT30 (tp rfl)) <|
   sc rfl (oM rfl (tp rfl)) <|
   sc rfl (oM rfl (tp rfl)) <|
   sc rfl (op_call (l := [.tmp 11, .tmp 12, .tmp 13]) rfl kN77 (.cons (tp rfl) (.cons (tp rfl) (.cons (tp rfl) .nil))) ((impl_NeedsOf_w p4)).fn) <|
   sc rfl (op_lenL rfl kL36 (tp rfl)) <|
   sc rfl (oM rfl cI) <| .nil) [14, 15, 16] rfl [(7, 0)] rfl ⟨iE, trivial⟩ (fun a6 w6 st6 => ?_)
  refine wp_block ?_
  refine loop_model h5 (fun s7 a w => ∃ M1 q7_0, Sx (Frm.of w0) 27 M M1 [oneB q7_0] [(14, dt v4), (15, dt (v4.length : Int)), (16, dt s7.2)] [(7, 0, dtip q7_0 9 s7.1)] a w) ⟨_, _, st6.sel [14, 15, 16] rfl [(7, 0)] rfl ⟨iE, trivial⟩⟩ ?_
  rintro s7 x7 a7 w7 ⟨M7, q7_0, st7⟩ hs7 hx7
  have h8 : m_impl_EdgesOf_s0 v4 s7 = some x7 := hs7
  unfold m_impl_EdgesOf_s0 at h8
  refine st7.sq (
    sc rfl (oCI rfl (tp rfl) (tp rfl)) <| .nil) [14, 15, 16, 17] rfl [(7, 0)] rfl ⟨iI, trivial⟩ (fun a9 w9 st9 => ?_)
  refine wp_seq ?_
  refine st9.cs (c := 17) rfl h8 (fun c10 h10 => ?_) (fun c11 h11 => ?_)
  ·
   refine wp_skip (then_normal (wp_seq (wp_block ?_)))
   obtain ⟨v12, p12, h13⟩ := bs h10
   refine st9.sq (
     sc rfl (xIdx rfl kS36 (tp rfl) (tp rfl) p12) <|
     sc rfl (op_load rfl kT9 (tp rfl)) <|
     sc rfl (oA rfl (tp rfl)) <| .nil) [9, 14, 15, 16] rfl [(7, 0)] rfl ⟨iI, trivial⟩ (fun a14 w14 st14 => ?_)
   refine wp_region_list ?_
   obtain ⟨v15, p15, h16⟩ := bs h13
   refine st14.seg 3 (
     sc rfl (oM rfl (tp rfl)) <|
     sc rfl (oM rfl (tp rfl)) <|
     sc rfl (op_call (l := [.tmp 21]) rfl kN34 (.cons (tp rfl) .nil) ((impl_NamesAbove_w p15)).fn) <| .nil) [14, 15, 16, 22] rfl [(7, 0), (20, 0)] rfl ⟨iI, ⟨iI, trivial⟩⟩ (fun a17 w17 st17 => ?_)
   obtain ⟨v20, p20, h21⟩ := bs h16
   refine st17.app 0 rfl rfl kE36 rfl rfl rfl row_dt p20 [14, 15, 16] rfl [] rfl rfl (fun g19 M19 a19 w19 st19 => ?_)
   refine st19.seg 1 (
     sc rfl (oA rfl (tp rfl)) <| .nil) [14, 15, 16] rfl [(7, 0)] rfl ⟨iI, trivial⟩ (fun a22 w22 st22 => ?_)
   refine wpList_nil (blk_normal (then_normal ?_))
   obtain ⟨v23, p23, h24⟩ := bs h21
   refine st22.rg (
     sc rfl (xAr rfl (tp rfl) cI p23) <|
     sc rfl (oM rfl (tp rfl)) <| .nil) [14, 15, 16] rfl [(7, 0)] rfl ⟨iI, trivial⟩ (fun a25 w25 st25 => ?_)
   refine then_normal ?_
   exact ⟨_, (Option.some.inj h24).symm, ⟨_, _, st25.sel [14, 15, 16] rfl [(7, 0)] rfl ⟨iI, trivial⟩⟩⟩
  ·
   refine wp_exit (thn_exit (thn_exit (exit_here ?_)))
   refine then_normal ?_
   have h26 := lo h11 hx7
   obtain rfl := Option.some.inj h26
   exact ⟨_, _, st9.sel [] rfl [(7, 0)] rfl ⟨iI, trivial⟩⟩
 ·
  rintro a3 w3 ⟨M3, q3_0, st3⟩
  have h27 := k3
  have st28 := st3.frz 0 (s := 7) rfl rfl [] rfl [] rfl
  obtain ⟨v29, p29, h30⟩ := bs h27
  refine st28.sq0 (
   sc rfl (oM rfl (tp rfl)) <|
   sc rfl (op_call (l := [.tmp 25]) rfl kN78 (.cons (tp rfl) .nil) ((impl_unique_w p29)).fn) <|
   sc rfl (oA rfl (tp rfl)) <| .nil) [6] rfl (fun a31 w31 st31 => ?_)
  refine wp_ret ?_
  exact st31.ret rfl rfl h30
def m_impl_ReachOf_1 (x0 : Str) (x1 : Tree) (x2 : List Int) : Option (List Str) :=
(m_impl_EdgesOf x1 x2 x0).bind fun v2 =>
some v2
theorem impl_ReachOf_1_w {x0 : Str} {x1 : Tree} {x2 : List Int} {r : List Str} (h : m_impl_ReachOf_1 x0 x1 x2 = some r) : Fn Tryz.prog 76 [dt x0, dptr x1, dptr x2] (dt r) := by
 unfold m_impl_ReachOf_1 at h
 refine fnx (fn := Tryz.f76) 0 Tryz.func76 rfl (of_decide_eq_true rfl) rfl (fun M w0 a0 st0 => ?_)
 refine st0.sq0 (
  sc rfl (oA rfl (opd_nil (α := Str))) <| .nil) [0, 1, 2] rfl (fun a1 w1 st1 => ?_)
 obtain ⟨v2, p2, h3⟩ := bs h
 refine st1.sq0 (
  sc rfl (op_load rfl kT30 (tp rfl)) <|
  sc rfl (op_load rfl kT25 (tp rfl)) <|
  sc rfl (oM rfl (tp rfl)) <|
  sc rfl (op_call (l := [.tmp 5, .tmp 6, .tmp 7]) rfl kN33 (.cons (tp rfl) (.cons (tp rfl) (.cons (tp rfl) .nil))) (impl_EdgesOf_w p2)) <|
  sc rfl (oA rfl (tp rfl)) <| .nil) [4] rfl (fun a4 w4 st4 => ?_)
 refine wp_ret ?_
 exact st4.ret rfl rfl h3
def m_impl_ReachOf (x0 : Tree) (x1 : List Int) (x2 : Str) : Option (List Str) :=
(m_impl_graphOk x0 x1 x2).bind fun v2 =>
if (!v2) = true then (some [])
else ((m_impl_NamesAbove x2).bind fun v8 =>
(m_impl_reach v8 (fun a0 => m_impl_ReachOf_1 a0 x0 x1)).bind fun v13 =>
(m_impl_sorted v13).bind fun v17 =>
some v17)
theorem impl_ReachOf_w {x0 : Tree} {x1 : List Int} {x2 : Str} {r : List Str} (h : m_impl_ReachOf x0 x1 x2 = some r) : FnOwn Tryz.prog 28 [dt x0, dt x1, dt x2] 9 r := by
 unfold m_impl_ReachOf at h
 refine fnxO (fn := Tryz.f28) 1 Tryz.func28 rfl (of_decide_eq_true rfl) rfl (fun M w0 a0 st0 => ?_)
 refine st0.sq0 (
  sc rfl (op_box rfl (tp rfl)) <|
  sc rfl (op_box rfl (tp rfl)) <|
  sc rfl (oA rfl (opd_nilTip (α := Str) (e := 9))) <| .nil) [2, 3, 4] rfl (fun a1 w1 st1 => ?_)
 refine wp_seq ?_
 obtain ⟨v2, p2, h3⟩ := bs h
 refine st1.sq0 (
  sc rfl (op_load rfl kT30 (tp rfl)) <|
  sc rfl (op_load rfl kT25 (tp rfl)) <|
  sc rfl (oM rfl (tp rfl)) <|
  sc rfl (op_call (l := [.tmp 7, .tmp 8, .tmp 9]) rfl kN60 (.cons (tp rfl) (.cons (tp rfl) (.cons (tp rfl) .nil))) (impl_graphOk_w p2)) <|
  sc rfl (op_not rfl (tp rfl)) <| .nil) [2, 3, 4, 11] rfl (fun a4 w4 st4 => ?_)
 refine st4.cs (c := 11) rfl h3 (fun c5 h5 => ?_) (fun c6 h6 => ?_)
 ·
  refine st4.sq (
   sc rfl (op_lit0 (α := Str) (e := 9) rfl kS36) <|
   sc rfl (oA rfl (tp rfl)) <| .nil) [] rfl [(6, 0)] rfl ⟨iE, trivial⟩ (fun a7 w7 st7 => ?_)
  refine wp_ret (thn_ret ?_)
  exact st7.ret_own 0 rfl rfl iE h5
 ·
  refine wp_skip (then_normal (wp_seq (wp_region_list ?_)))
  obtain ⟨v8, p8, h9⟩ := bs h6
  refine st4.seg 3 (
   sc rfl (oM rfl (tp rfl)) <|
   sc rfl (op_call (l := [.tmp 13]) rfl kN34 (.cons (tp rfl) .nil) ((impl_NamesAbove_w p8)).fn) <|
   sc rfl (xMkF1 (l := [.tmp 3, .tmp 4]) (g := (fun a0 => m_impl_ReachOf_1 a0 x0 x1)) rfl kN76 (.cons (tp rfl) (.cons (tp rfl) .nil)) rfl (fun _ _ h => impl_ReachOf_1_w h)) <| .nil) [14, 15] rfl [] rfl trivial (fun a10 w10 st10 => ?_)
  obtain ⟨v13, p13, h14⟩ := bs h9
  refine st10.own (l := [.tmp 14, .tmp 15]) 0 rfl rfl kN75 (.cons (tp rfl) (.cons (tp rfl) .nil)) (impl_reach_w p13) (by simp) [] rfl [] rfl rfl (fun g12 M12 a12 w12 st12 => ?_)
  obtain ⟨v17, p17, h18⟩ := bs h14
  refine st12.take (l := []) 0 rfl rfl kN70 rfl rfl .nil (impl_sorted_w p17) [] rfl [] rfl rfl (fun g16 M16 a16 w16 st16 => ?_)
  refine st16.seg 1 (
   sc rfl (oA rfl (tp rfl)) <| .nil) [] rfl [(6, 0)] rfl ⟨iI, trivial⟩ (fun a19 w19 st19 => ?_)
  refine wpList_nil (then_normal (wp_ret ?_))
  exact st19.ret_own 0 rfl rfl iI h18
def m_impl_MissingOf_s0 (x0 : Tree) (x1 : List Int) (v4 : List Str) (s7 : (List Str) × Int) : Option (((List Str) × Int) ⊕ (List Str)) :=
if (cmpI .lss s7.2 (v4.length : Int)) = true then (Option.bind (α := (List Str)) ((atI v4 s7.2).bind fun v13 =>
(m_impl_CanFind x0 x1 v13).bind fun v16 =>
if (!v16) = true then ((appO 16 s7.1 ([v13] : List Str)).bind fun v24 =>
some v24)
else (some s7.1)) fun o12 =>
(i64 (s7.2 + (1 : Int))).bind fun v28 =>
some (.inl (o12, v28)))
else (some (.inr s7.1))
def m_impl_MissingOf (x0 : Tree) (x1 : List Int) (x2 : Str) : Option (List Str) :=
Option.bind (α := (List Str)) ((m_impl_ReachOf x0 x1 x2).bind fun v4 =>
loopM (fun s7 => m_impl_MissingOf_s0 x0 x1 v4 s7) ([], (0 : Int))) fun o3 =>
some o3
theorem impl_MissingOf_w {x0 : Tree} {x1 : List Int} {x2 : Str} {r : List Str} (h : m_impl_MissingOf x0 x1 x2 = some r) : FnOwn Tryz.prog 37 [dt x0, dt x1, dt x2] 9 r := by
 unfold m_impl_MissingOf at h
 refine fnxO (fn := Tryz.f37) 1 Tryz.func37 rfl (of_decide_eq_true rfl) rfl (fun M w0 a0 st0 => ?_)
 refine st0.sq0 (
  sc rfl (op_box rfl (tp rfl)) <|
  sc rfl (oA rfl (opd_nilTip (α := Str) (e := 9))) <| .nil) [1, 2, 3] rfl (fun a1 w1 st1 => ?_)
 refine st1.sq (
  sc rfl (op_lit0 (α := Str) (e := 9) rfl kS36) <|
  sc rfl (oA rfl (tp rfl)) <| .nil) [1, 2, 3] rfl [(7, 0)] rfl ⟨iE, trivial⟩ (fun a2 w2 st2 => ?_)
 obtain ⟨o3, p3, k3⟩ := bs h
 refine wp_seq_join (fun a w => ∃ M1 q3_0, Sx (Frm.of w0) 31 M M1 [oneB q3_0] [] [(7, 0, dtip q3_0 9 o3)] a w) ?_ ?_
 ·
  obtain ⟨v4, p4, h5⟩ := bs p3
  refine st2.sq (
   sc rfl (op_load rfl kT30 (tp rfl)) <|
   sc rfl (oM rfl (tp rfl)) <|
   sc rfl (oM rfl (tp rfl)) <|
   sc rfl (op_call (l := [.tmp 11, .tmp 12, .tmp 13]) rfl kN28 (.cons (tp rfl) (.cons (tp rfl) (.cons (tp rfl) .nil))) ((impl_ReachOf_w p4)).fn) <|
   sc rfl (op_lenL rfl kL36 (tp rfl)) <|
   sc rfl (oM rfl cI) <| .nil) [1, 3, 14, 15, 16] rfl [(7, 0)] rfl ⟨iE, trivial⟩ (fun a6 w6 st6 => ?_)
  refine wp_block ?_
  refine loop_model h5 (fun s7 a w => ∃ M1 q7_0, Sx (Frm.of w0) 31 M M1 [oneB q7_0] [(1, dt x1), (3, dptr x0), (14, dt v4), (15, dt (v4.length : Int)), (16, dt s7.2)] [(7, 0, dtip q7_0 9 s7.1)] a w) ⟨_, _, st6.sel [1, 3, 14, 15, 16] rfl [(7, 0)] rfl ⟨iE, trivial⟩⟩ ?_
  rintro s7 x7 a7 w7 ⟨M7, q7_0, st7⟩ hs7 hx7
  have h8 : m_impl_MissingOf_s0 x0 x1 v4 s7 = some x7 := hs7
  unfold m_impl_MissingOf_s0 at h8
  refine st7.sq (
    sc rfl (oCI rfl (tp rfl) (tp rfl)) <| .nil) [1, 3, 14, 15, 16, 17] rfl [(7, 0)] rfl ⟨iI, trivial⟩ (fun a9 w9 st9 => ?_)
  refine wp_seq ?_
  refine st9.cs (c := 17) rfl h8 (fun c10 h10 => ?_) (fun c11 h11 => ?_)
  ·
   refine wp_skip (then_normal ?_)
   obtain ⟨o12, p12, k12⟩ := bs h10
   refine wp_seq_join (fun a w => ∃ M1 q12_0, Sx (Frm.of w0) 31 M M1 [oneB q12_0] [(1, dt x1), (3, dptr x0), (14, dt v4), (15, dt (v4.length : Int)), (16, dt s7.2)] [(7, 0, dtip q12_0 9 o12)] a w) ?_ ?_
   ·
    refine wp_block ?_
    obtain ⟨v13, p13, h14⟩ := bs p12
    refine st9.sq (
      sc rfl (xIdx rfl kS36 (tp rfl) (tp rfl) p13) <|
      sc rfl (op_load rfl kT9 (tp rfl)) <|
      sc rfl (oA rfl (tp rfl)) <| .nil) [1, 3, 9, 14, 15, 16] rfl [(7, 0)] rfl ⟨iI, trivial⟩ (fun a15 w15 st15 => ?_)
    obtain ⟨v16, p16, h17⟩ := bs h14
    refine st15.sq (
      sc rfl (op_load rfl kT30 (tp rfl)) <|
      sc rfl (oM rfl (tp rfl)) <|
      sc rfl (oM rfl (tp rfl)) <|
      sc rfl (op_call (l := [.tmp 20, .tmp 21, .tmp 22]) rfl kN31 (.cons (tp rfl) (.cons (tp rfl) (.cons (tp rfl) .nil))) (impl_CanFind_w p16)) <|
      sc rfl (op_not rfl (tp rfl)) <| .nil) [1, 3, 9, 14, 15, 16, 24] rfl [(7, 0)] rfl ⟨iI, trivial⟩ (fun a18 w18 st18 => ?_)
    refine st18.cs (c := 24) rfl h17 (fun c19 h19 => ?_) (fun c20 h20 => ?_)
    ·
     refine wp_region_list ?_
     refine st18.seg 3 (
       sc rfl (oM rfl (tp rfl)) <|
       sc rfl (oM rfl (tp rfl)) <|
       sc rfl (op_lit (opds := [.tmp 26]) rfl kS36 kY36 rfl rfl (by decide) (.cons (tp rfl) .nil)) <| .nil) [1, 3, 14, 15, 16, 27] rfl [(7, 0), (25, 0)] rfl ⟨iI, ⟨iI, trivial⟩⟩ (fun a21 w21 st21 => ?_)
     obtain ⟨v24, p24, h25⟩ := bs h19
     refine st21.app 0 rfl rfl kE36 rfl rfl rfl row_dt p24 [1, 3, 14, 15, 16] rfl [] rfl rfl (fun g23 M23 a23 w23 st23 => ?_)
     refine st23.seg 1 (
       sc rfl (oA rfl (tp rfl)) <| .nil) [1, 3, 14, 15, 16] rfl [(7, 0)] rfl ⟨iI, trivial⟩ (fun a26 w26 st26 => ?_)
     refine wpList_nil (blk_normal (then_normal ?_))
     obtain rfl := Option.some.inj h25
     exact ⟨_, _, st26.sel [1, 3, 14, 15, 16] rfl [(7, 0)] rfl ⟨iI, trivial⟩⟩
    ·
     refine wp_skip (blk_normal (then_normal ?_))
     obtain rfl := Option.some.inj h20
     exact ⟨_, _, st18.sel [1, 3, 14, 15, 16] rfl [(7, 0)] rfl ⟨iI, trivial⟩⟩
   ·
    rintro a12 w12 ⟨M12, q12_0, st12⟩
    have h27 := k12
    obtain ⟨v28, p28, h29⟩ := bs h27
    refine st12.rg (
      sc rfl (xAr rfl (tp rfl) cI p28) <|
      sc rfl (oM rfl (tp rfl)) <| .nil) [1, 3, 14, 15, 16] rfl [(7, 0)] rfl ⟨iI, trivial⟩ (fun a30 w30 st30 => ?_)
    refine then_normal ?_
    exact ⟨_, (Option.some.inj h29).symm, ⟨_, _, st30.sel [1, 3, 14, 15, 16] rfl [(7, 0)] rfl ⟨iI, trivial⟩⟩⟩
  ·
   refine wp_exit (thn_exit (thn_exit (exit_here ?_)))
   refine then_normal ?_
   have h31 := lo h11 hx7
   obtain rfl := Option.some.inj h31
   exact ⟨_, _, st9.sel [] rfl [(7, 0)] rfl ⟨iI, trivial⟩⟩
 ·
  rintro a3 w3 ⟨M3, q3_0, st3⟩
  have h32 := k3
  refine st3.sq (
   sc rfl (oM rfl (tp rfl)) <|
   sc rfl (oA rfl (tp rfl)) <| .nil) [] rfl [(6, 0)] rfl ⟨iI, trivial⟩ (fun a33 w33 st33 => ?_)
  refine wp_ret ?_
  exact st33.ret_own 0 rfl rfl iI h32
def m_spec_MissingOf_s0 (x0 : Tree) (x1 : List Int) (v14 : List Str) (s20 : (List Str) × Int) : Option (((List Str) × Int) ⊕ (List Str)) :=
if (cmpI .lss s20.2 (v14.length : Int)) = true then (Option.bind (α := (List Str)) ((atI v14 s20.2).bind fun v26 =>
(m_spec_find x0 x1 v26).bind fun v27 =>
if (cmpI .eql v27.kind (0 : Int)) = true then ((atI v14 s20.2).bind fun v33 =>
(m_spec_insertText s20.1 v33).bind fun v38 =>
some v38)
else (some s20.1)) fun o25 =>
(i64 (s20.2 + (1 : Int))).bind fun v42 =>
some (.inl (o25, v42)))
else (some (.inr s20.1))
def m_spec_MissingOf (x0 : Tree) (x1 : List Int) (x2 : Str) : Option (List Str) :=
(m_spec_validTree x0).bind fun v2 =>
(gO ((!v2) == false) (m_spec_validPath x1)).bind fun v3 =>
(gO (((!v2) || (!v3)) == false) (m_spec_validName x2)).bind fun v4 =>
if (((!v2) || (!v3)) || (!v4)) = true then (some [])
else ((m_spec_above x2).bind fun v13 =>
(m_spec_reach x0 x1 v13).bind fun v14 =>
Option.bind (α := (List Str)) (loopM (fun s20 => m_spec_MissingOf_s0 x0 x1 v14 s20) ([], (0 : Int))) fun o18 =>
some o18)
theorem spec_MissingOf_w {x0 : Tree} {x1 : List Int} {x2 : Str} {r : List Str} (h : m_spec_MissingOf x0 x1 x2 = some r) : FnOwn Tryz.prog 38 [dt x0, dt x1, dt x2] 9 r := by
 unfold m_spec_MissingOf at h
 refine fnxO (fn := Tryz.f38) 1 Tryz.func38 rfl (of_decide_eq_true rfl) rfl (fun M w0 a0 st0 => ?_)
 refine st0.sq0 (
  sc rfl (op_box rfl (tp rfl)) <|
  sc rfl (oA rfl (opd_nilTip (α := Str) (e := 9))) <| .nil) [1, 2, 3] rfl (fun a1 w1 st1 => ?_)
 refine wp_seq ?_
 obtain ⟨v2, p2, h5⟩ := bs h
 obtain ⟨v3, p3, h6⟩ := bs h5
 obtain ⟨v4, p4, h7⟩ := bs h6
 refine st1.sq0 (
  sc rfl (op_load rfl kT30 (tp rfl)) <|
  sc rfl (op_call (l := [.tmp 10]) rfl kN51 (.cons (tp rfl) .nil) (spec_validTree_w p2)) <|
  sc rfl (op_not rfl (tp rfl)) <|
  sc rfl (oM rfl (tp rfl)) <|
  sg rfl rfl (fun hg => oM rfl (tp rfl)) <|
  sg rfl rfl (fun hg => op_call (l := [.tmp 14]) rfl kN52 (.cons (opd_g hg rfl) .nil) (spec_validPath_w (gh hg p3))) <|
  sg rfl rfl (fun hg => op_not rfl (opd_g hg rfl)) <|
  sc rfl (op_or rfl (tp rfl) (opd_tmp rfl)) <|
  sc rfl (oM rfl (tp rfl)) <|
  sg rfl rfl (fun hg => oM rfl (tp rfl)) <|
  sg rfl rfl (fun hg => op_call (l := [.tmp 19]) rfl kN53 (.cons (opd_g hg rfl) .nil) (spec_validName_w (gh hg p4))) <|
  sg rfl rfl (fun hg => op_not rfl (opd_g hg rfl)) <|
  sc rfl (op_or rfl (tp rfl) (opd_tmp rfl)) <| .nil) [1, 2, 3, 22] rfl (fun a8 w8 st8 => ?_)
 refine st8.cs (c := 22) rfl h7 (fun c9 h9 => ?_) (fun c10 h10 => ?_)
 ·
  refine st8.sq (
   sc rfl (oA rfl (opd_nilTip (α := Str) (e := 9))) <| .nil) [] rfl [(6, 0)] rfl ⟨iE, trivial⟩ (fun a11 w11 st11 => ?_)
  refine wp_ret (thn_ret ?_)
  exact st11.ret_own 0 rfl rfl iE h9
 ·
  refine wp_skip (then_normal ?_)
  refine st8.sq (
   sc rfl (op_lit0 (α := Str) (e := 9) rfl kS36) <|
   sc rfl (oA rfl (tp rfl)) <| .nil) [1, 2, 3] rfl [(7, 0)] rfl ⟨iE, trivial⟩ (fun a12 w12 st12 => ?_)
  refine wp_seq ?_
  obtain ⟨v13, p13, h15⟩ := bs h10
  obtain ⟨v14, p14, h16⟩ := bs h15
  refine st12.dr (D := [_, _, _, _, _, _]) Tryz_mixed [[], [], [], [2], [0, 1, 2, 3], [0, 1, 2, 3, 4]] [[(3, none)], [(1, none)], [(2, none)], [(26, some 2)], [(24, some 0), (25, some 1), (27, some 3)], [(28, some 4)]] (by decide +kernel) (
   rc rfl rfl (op_load rfl kT30 (tp rfl)) <|
   rc rfl rfl (oM rfl (tp rfl)) <|
   rc rfl rfl (oM rfl (tp rfl)) <|
   rc rfl rfl (op_call (l := [.tmp 26]) rfl kN55 (.cons (tp rfl) .nil) (spec_above_w p13)) <|
   rc rfl rfl (op_call (l := [.tmp 24, .tmp 25, .tmp 27]) rfl kN54 (.cons (tp rfl) (.cons (tp rfl) (.cons (tp rfl) .nil))) ((spec_reach_w p14)).fn) <|
   rc rfl rfl (oA rfl (tp rfl)) <| .nil) [1, 3, 8] rfl [(7, 0)] rfl ⟨iE, trivial⟩ (fun a17 w17 st17 => ?_)
  refine then_normal ?_
  obtain ⟨o18, p18, k18⟩ := bs h16
  refine wp_seq_join (fun a w => ∃ M1 q18_0, Sx (Frm.of w0) 51 M M1 [oneB q18_0] [] [(7, 0, dtip q18_0 9 o18)] a w) ?_ ?_
  ·
   refine st17.sq (
    sc rfl (oA rfl cI) <| .nil) [1, 3, 8, 9] rfl [(7, 0)] rfl ⟨iE, trivial⟩ (fun a19 w19 st19 => ?_)
   refine wp_block ?_
   refine loop_model p18 (fun s20 a w => ∃ M1 q20_0, Sx (Frm.of w0) 51 M M1 [oneB q20_0] [(1, dt x1), (3, dptr x0), (8, dt v14), (9, dt s20.2)] [(7, 0, dtip q20_0 9 s20.1)] a w) ⟨_, _, st19.sel [1, 3, 8, 9] rfl [(7, 0)] rfl ⟨iE, trivial⟩⟩ ?_
   rintro s20 x20 a20 w20 ⟨M20, q20_0, st20⟩ hs20 hx20
   have h21 : m_spec_MissingOf_s0 x0 x1 v14 s20 = some x20 := hs20
   unfold m_spec_MissingOf_s0 at h21
   refine wp_seq ?_
   refine st20.sq (
     sc rfl (oM rfl (tp rfl)) <|
     sc rfl (oM rfl (tp rfl)) <|
     sc rfl (op_lenL rfl kL36 (tp rfl)) <|
     sc rfl (oCI rfl (tp rfl) (tp rfl)) <| .nil) [1, 3, 8, 9, 32] rfl [(7, 0)] rfl ⟨iI, trivial⟩ (fun a22 w22 st22 => ?_)
   refine st22.cs (c := 32) rfl h21 (fun c23 h23 => ?_) (fun c24 h24 => ?_)
   ·
    refine wp_skip (then_normal ?_)
    obtain ⟨o25, p25, k25⟩ := bs h23
    refine wp_seq_join (fun a w => ∃ M1 q25_0, Sx (Frm.of w0) 51 M M1 [oneB q25_0] [(1, dt x1), (3, dptr x0), (8, dt v14), (9, dt s20.2)] [(7, 0, dtip q25_0 9 o25)] a w) ?_ ?_
    ·
     refine wp_block (wp_seq ?_)
     obtain ⟨v26, p26, h28⟩ := bs p25
     obtain ⟨v27, p27, h29⟩ := bs h28
     refine st22.dr (D := [_, _, _, _, _, _, _, _, _]) Tryz_mixed [[], [], [], [], [2, 3], [2, 3, 4], [0, 1, 2, 3, 4, 5], [0, 1, 2, 3, 4, 5, 6], [0, 1, 2, 3, 4, 5, 6, 7]] [[(3, none)], [(1, none)], [(8, none)], [(9, none)], [(37, some 2), (38, some 3)], [(39, some 4)], [(35, some 0), (36, some 1), (40, some 5)], [(41, some 6)], [(42, some 7)]] (by decide +kernel) (
      rc rfl rfl (op_load rfl kT30 (tp rfl)) <|
       rc rfl rfl (oM rfl (tp rfl)) <|
       rc rfl rfl (oM rfl (tp rfl)) <|
       rc rfl rfl (oM rfl (tp rfl)) <|
       rc rfl rfl (xIdx rfl kS36 (tp rfl) (tp rfl) p26) <|
       rc rfl rfl (op_load rfl kT9 (tp rfl)) <|
       rc rfl rfl (op_call (l := [.tmp 35, .tmp 36, .tmp 40]) rfl kN56 (.cons (tp rfl) (.cons (tp rfl) (.cons (tp rfl) .nil))) (spec_find_w p27)) <|
       rc rfl rfl (op_fieldV Spec.fld0 rfl rfl kG56_0 (tp rfl)) <|
       rc rfl rfl (oCI rfl (tp rfl) cI) <| .nil) [1, 3, 8, 9, 43] rfl [(7, 0)] rfl ⟨iI, trivial⟩ (fun a30 w30 st30 => ?_)
     refine then_normal ?_
     refine st30.cs (c := 43) rfl h29 (fun c31 h31 => ?_) (fun c32 h32 => ?_)
     ·
      refine wp_region_list ?_
      obtain ⟨v33, p33, h34⟩ := bs h31
      refine st30.seg 5 (
        sc rfl (oM rfl (tp rfl)) <|
        sc rfl (oM rfl (tp rfl)) <|
        sc rfl (oM rfl (tp rfl)) <|
        sc rfl (xIdx rfl kS36 (tp rfl) (tp rfl) p33) <|
        sc rfl (op_load rfl kT9 (tp rfl)) <| .nil) [1, 3, 8, 9, 48] rfl [(7, 0), (44, 0)] rfl ⟨iI, ⟨iI, trivial⟩⟩ (fun a35 w35 st35 => ?_)
      obtain ⟨v38, p38, h39⟩ := bs h34
      refine st35.take (l := [.tmp 48]) 0 rfl rfl kN65 rfl rfl (.cons (tp rfl) .nil) (spec_insertText_w p38) [1, 3, 8, 9] rfl [] rfl rfl (fun g37 M37 a37 w37 st37 => ?_)
      refine st37.seg 1 (
        sc rfl (oA rfl (tp rfl)) <| .nil) [1, 3, 8, 9] rfl [(7, 0)] rfl ⟨iI, trivial⟩ (fun a40 w40 st40 => ?_)
      refine wpList_nil (blk_normal (then_normal ?_))
      obtain rfl := Option.some.inj h39
      exact ⟨_, _, st40.sel [1, 3, 8, 9] rfl [(7, 0)] rfl ⟨iI, trivial⟩⟩
     ·
      refine wp_skip (blk_normal (then_normal ?_))
      obtain rfl := Option.some.inj h32
      exact ⟨_, _, st30.sel [1, 3, 8, 9] rfl [(7, 0)] rfl ⟨iI, trivial⟩⟩
    ·
     rintro a25 w25 ⟨M25, q25_0, st25⟩
     have h41 := k25
     obtain ⟨v42, p42, h43⟩ := bs h41
     refine st25.rg (
       sc rfl (oM rfl (tp rfl)) <|
       sc rfl (xAr rfl (tp rfl) cI p42) <|
       sc rfl (oA rfl (tp rfl)) <| .nil) [1, 3, 8, 9] rfl [(7, 0)] rfl ⟨iI, trivial⟩ (fun a44 w44 st44 => ?_)
     refine then_normal ?_
     exact ⟨_, (Option.some.inj h43).symm, ⟨_, _, st44.sel [1, 3, 8, 9] rfl [(7, 0)] rfl ⟨iI, trivial⟩⟩⟩
   ·
    refine wp_exit (thn_exit (thn_exit (exit_here ?_)))
    refine then_normal ?_
    have h45 := lo h24 hx20
    obtain rfl := Option.some.inj h45
    exact ⟨_, _, st22.sel [] rfl [(7, 0)] rfl ⟨iI, trivial⟩⟩
  ·
   rintro a18 w18 ⟨M18, q18_0, st18⟩
   have h46 := k18
   refine st18.sq (
    sc rfl (oM rfl (tp rfl)) <|
    sc rfl (oA rfl (tp rfl)) <| .nil) [] rfl [(6, 0)] rfl ⟨iI, trivial⟩ (fun a47 w47 st47 => ?_)
   refine wp_ret ?_
   exact st47.ret_own 0 rfl rfl iI h46
end Go.Proofs.YtbnibckkfknpkaaGreatDoor
namespace Go.Proofs.YtbnibckkfknpkaaGreatDoor
open Go.RowKit
set_option maxRecDepth 10000
set_option maxHeartbeats 1600000
theorem kN38 : fnB Tryz.prog 38 = true := by kernel_rfl
theorem kN37 : fnB Tryz.prog 37 = true := by kernel_rfl
end Go.Proofs.YtbnibckkfknpkaaGreatDoor
