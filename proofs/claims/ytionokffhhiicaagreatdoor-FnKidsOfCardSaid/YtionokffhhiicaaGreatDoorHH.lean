/-
  Models for what was walked before.
  Models of functions, and their walks: printed by a program of our own (wip/mxo.py).
  Models of functions, and their walks: printed by a program of our own (wip/mxo.py).
  Models of functions, and their walks: printed by a program of our own (wip/mxo.py).
  Models of functions, and their walks: printed by a program of our own (wip/mxo.py).
-/
import Derived.Test.YtionokffhhiicaaGreatDoorHD
import Derived.Test.YtionokffhhiicaaGreatDoorHF
import Derived.Test.YtionokffhhiicaaGreatDoorHG
import Derived.Test.YtionokffhhiicaaGreatDoorHC
namespace Go.Proofs.YtionokffhhiicaaGreatDoor
open Go.RowKit
instance (s : Str) : Decidable (mid s) := by unfold mid; infer_instance
instance (s : Stmt) : Decidable (smStmt s) := by unfold smStmt; infer_instance
instance (f : File) : Decidable (smFile f) := by unfold smFile; infer_instance
instance (t : Tree) : Decidable (smTree t) := by unfold smTree; infer_instance
def m_spec_validTree (t : Tree) : Option Bool := if smTree t then some (validTree t) else none
theorem spec_validTree_w {t : Tree} {r : Bool} (h : m_spec_validTree t = some r) : Fn Tryz.prog 53 [dt t] (dt r) := by
  unfold m_spec_validTree at h
  split at h
  · rename_i hc
    injection h with h
    subst h
    exact spec_validTree_ok _ hc
  · cases h
def m_spec_validName (s : Str) : Option Bool := if mid s then some (validName s) else none
theorem spec_validName_w {s : Str} {r : Bool} (h : m_spec_validName s = some r) : Fn Tryz.prog 130 [dt s] (dt r) := by
  unfold m_spec_validName at h
  split at h
  · rename_i hc
    injection h with h
    subst h
    exact spec_validName_ok _ hc
  · cases h
def m_spec_insertText (l : List Str) (s : Str) : Option (List Str) := if l.length ≤ 8796093022200 then some (insertT l s) else none
theorem spec_insertText_w {l : List Str} {s : Str} {r : List Str} (h : m_spec_insertText l s = some r) : FnTake Tryz.prog 56 9 l [dt s] r := by
  unfold m_spec_insertText at h
  split at h
  · rename_i hc
    injection h with h
    subst h
    exact spec_insertText_ok _ _ hc
  · cases h
def m_spec_validPath (p : List Int) : Option Bool := if True then some (validPath p) else none
theorem spec_validPath_w {p : List Int} {r : Bool} (h : m_spec_validPath p = some r) : Fn Tryz.prog 54 [dt p] (dt r) := by
  unfold m_spec_validPath at h
  split at h
  · rename_i hc
    injection h with h
    subst h
    exact spec_validPath_ok _
  · cases h
def m_spec_names (t : Tree) : Option (List Str) := if smTree t then some (names t) else none
theorem spec_names_w {t : Tree} {r : List Str} (h : m_spec_names t = some r) : FnOwn Tryz.prog 55 [dt t] 9 r := by
  unfold m_spec_names at h
  split at h
  · rename_i hc
    injection h with h
    subst h
    exact spec_names_ok _ hc
  · cases h
def m_spec_find (t : Tree) (p : List Int) (s : Str) : Option Spec := if p.length ≤ 1099511627776 ∧ mid s then some (find t.files p s) else none
theorem spec_find_w {t : Tree} {p : List Int} {s : Str} {r : Spec} (h : m_spec_find t p s = some r) : Fn Tryz.prog 58 [dt t, dt p, dt s] (dt r) := by
  unfold m_spec_find at h
  split at h
  · rename_i hc
    injection h with h
    subst h
    exact spec_find_ok _ _ _ hc.1 hc.2
  · cases h
def m_spec_parent (s : Str) : Option Str := if mid s then some (parent s) else none
theorem spec_parent_w {s : Str} {r : Str} (h : m_spec_parent s = some r) : Fn Tryz.prog 83 [dt s] (dt r) := by
  unfold m_spec_parent at h
  split at h
  · rename_i hc
    injection h with h
    subst h
    exact spec_parent_ok _ hc
  · cases h
def m_spec_last (s : Str) : Option Str := if mid s then some (lastPart s) else none
theorem spec_last_w {s : Str} {r : Str} (h : m_spec_last s = some r) : Fn Tryz.prog 84 [dt s] (dt r) := by
  unfold m_spec_last at h
  split at h
  · rename_i hc
    injection h with h
    subst h
    exact spec_last_ok _ hc
  · cases h
def m_spec_fileAt (t : Tree) (f : File) : Option Int := if True then some (fileAt t.files f) else none
theorem spec_fileAt_w {t : Tree} {f : File} {r : Int} (h : m_spec_fileAt t f = some r) : Fn Tryz.prog 100 [dt t, dt f] (dt r) := by
  unfold m_spec_fileAt at h
  split at h
  · rename_i hc
    injection h with h
    subst h
    exact spec_fileAt_ok _ _
  · cases h
end Go.Proofs.YtionokffhhiicaaGreatDoor

namespace Go.Proofs.YtionokffhhiicaaGreatDoor
open Go.RowKit
set_option maxRecDepth 10000

theorem kL36 : isSl Tryz.prog 36 = true := by kernel_rfl
theorem kS36 : slB Tryz.prog 36 1 = true := by kernel_rfl
theorem kB132 : bldB Tryz.prog 132 [1, 1] = true := by kernel_rfl
theorem kC132 : zeroOf Tryz.prog 132 [1, 1] = some zpReader := by kernel_rfl
theorem kF132_1 : fldB Tryz.prog 132 1 1 = true := by kernel_rfl
theorem kF132_0 : fldB Tryz.prog 132 0 0 = true := by kernel_rfl
theorem kT36 : tyB Tryz.prog 36 false 1 = true := by kernel_rfl
theorem kT5 : tyB Tryz.prog 5 false 1 = true := by kernel_rfl
theorem kCv5_3 : cvI Tryz.prog 5 3 = true := by kernel_rfl
theorem kN116 : fnB Tryz.prog 116 = true := by kernel_rfl
theorem kN165 : fnB Tryz.prog 165 = true := by kernel_rfl
theorem kN182 : fnB Tryz.prog 182 = true := by kernel_rfl
theorem kN117 : fnB Tryz.prog 117 = true := by kernel_rfl
theorem kN156 : fnB Tryz.prog 156 = true := by kernel_rfl
theorem kN127 : fnB Tryz.prog 127 = true := by kernel_rfl

def m_spec_newReader (x0 : List UInt8) : Option Reader :=
Option.bind (α := (List UInt8)) (if (cmpI .gtr (x0.length : Int) (2000 : Int)) = true then ((sliHO x0 (2000 : Int)).bind fun v6 =>
some v6)
else (some x0)) fun o2 =>
some (⟨o2, 0⟩ : Reader)

theorem spec_newReader_w {x0 : List UInt8} {r : Reader} (h : m_spec_newReader x0 = some r) : FnN Tryz.prog 66 [dt x0] (.ow (Ow.box (Ow.frz (α := Reader))) ⟨r⟩) := by
  unfold m_spec_newReader at h
  refine fnN (fn := Tryz.f66) 1 Tryz.func66 rfl (of_decide_eq_true rfl) rfl (fun M w0 a0 st0 => ?_)
  refine st0.sq0 (
    sc rfl (oA rfl opd_nilp) <| .nil) [0] rfl (fun a1 w1 st1 => ?_)
  obtain ⟨o2, p2, k2⟩ := bs h
  refine wp_seq_join (fun a w => ∃ M1 q2_0, Sx (Frm.of w0) 11 M M1 [q2_0] [(0, dt o2)] [] a w) ?_ ?_
  ·
    refine st1.sq0 (
      sc rfl (oM rfl (tp rfl)) <|
      sc rfl (op_lenL rfl kL36 (tp rfl)) <|
      sc rfl (oCI rfl (tp rfl) cI) <| .nil) [0, 5] rfl (fun a3 w3 st3 => ?_)
    refine st3.cs (c := 5) rfl p2 (fun c4 h4 => ?_) (fun c5 h5 => ?_)
    ·
      obtain ⟨v6, p6, h7⟩ := bs h4
      refine st3.rg0 (
        sc rfl (oM rfl (tp rfl)) <|
        sc rfl (xSliH rfl kS36 (tp rfl) cI p6) <|
        sc rfl (oA rfl (tp rfl)) <| .nil) [0] rfl (fun a8 w8 st8 => ?_)
      refine then_normal ?_
      obtain rfl := Option.some.inj h7
      exact ⟨_, _, st8.sel [0] rfl [] rfl trivial⟩
    ·
      refine wp_skip ?_
      refine then_normal ?_
      obtain rfl := Option.some.inj h5
      exact ⟨_, _, st3.sel [0] rfl [] rfl trivial⟩
  · rintro a2 w2 ⟨M2, q2_0, st2⟩
    have h9 := k2
    refine wp_seq ?_
    refine wp_region_list ?_
    refine st2.seg 2 (
      sc rfl (oM rfl (tp rfl)) <|
      sc rfl (op_build (parts := [(0, .tmp 8)]) (ns := [1, 1]) (zs := zpReader) rfl rfl kB132 kC132 (fun w a hl => by
 intro p hp; simp only [List.mem_cons, List.not_mem_nil, or_false] at hp
 rcases hp with rfl
 · exact ⟨by decide, Rep.len (α := List UInt8) (OpdR.cells (tp rfl) hl)⟩) (fun w a hl => Reader.parts (x := (⟨o2, 0⟩ : Reader)) (OpdR.cells (tp rfl) hl) ⟨rfl, trivial⟩)) <| .nil) [9] rfl [] rfl trivial (fun a10 w10 st10 => ?_)
    refine st10.boxZ 0 rfl rfl (tp rfl) (by simp) [] rfl [] rfl rfl (fun b11 M11 a11 w11 st11 => ?_)
    refine st11.seg 1 (
      sc rfl (oA rfl (tp rfl)) <| .nil) [] rfl [(2, 0)] rfl ⟨fun _ h => h, trivial⟩ (fun a12 w12 st12 => ?_)
    refine wpList_nil ?_
    refine then_normal ?_
    refine wp_ret ?_
    have st13 := st12.unm (s := 2) 0 rfl rfl (fun _ h => h) [] rfl
    exact st13.rnO 0 rfl rfl (fun _ h => h) (bx1 h9)

def m_spec_reader_pick (x0 : Reader) (x1 : Int) : Option (Reader × Int) :=
(i64 (x0.p + (1 : Int))).bind fun v2 =>
if (cmpI .lss x1 (1 : Int) || cmpI .eql (x0.b.length : Int) (0 : Int)) = true then (some ({ x0 with p := v2 }, (0 : Int)))
else ((i64 (v2 - (1 : Int))).bind fun v10 =>
if (cmpI .lss v10 (x0.b.length : Int)) = true then ((atI x0.b v10).bind fun v16 =>
(modO (v16.toNat : Int) x1).bind fun v17 =>
some ({ x0 with p := v2 }, v17))
else ((modO v10 (x0.b.length : Int)).bind fun v21 =>
(atI x0.b v21).bind fun v22 =>
(i64 ((v22.toNat : Int) * (131 : Int))).bind fun v23 =>
(i64 (v10 * (7 : Int))).bind fun v24 =>
(i64 (v24 + (3 : Int))).bind fun v25 =>
(modO v25 (x0.b.length : Int)).bind fun v26 =>
(atI x0.b v26).bind fun v27 =>
(i64 ((v27.toNat : Int) * (1117 : Int))).bind fun v28 =>
(i64 (v23 + v28)).bind fun v29 =>
(i64 (v10 * (29 : Int))).bind fun v30 =>
(i64 (v29 + v30)).bind fun v31 =>
(divO v10 (x0.b.length : Int)).bind fun v32 =>
(i64 (v32 * (53 : Int))).bind fun v33 =>
(i64 (v31 + v33)).bind fun v34 =>
(divO v34 (64 : Int)).bind fun v50 =>
(modO (xorI v34 v50) x1).bind fun v53 =>
some ({ x0 with p := v2 }, v53)))

theorem spec_reader_pick_w {x0 : Reader} {x1 : Int} {r : Reader × Int} (h : m_spec_reader_pick x0 x1 = some r) : FnS Tryz.prog 116 (Ow.box (Ow.frz (α := Reader))) ⟨x0⟩ [dt x1] ⟨r.1⟩ (.frz (dt r.2)) := by
  unfold m_spec_reader_pick at h
  refine fnSB (fn := Tryz.f116) 0 1 Tryz.func116 rfl (of_decide_eq_true rfl) rfl (fun M G w0 b0 a0 st0 => ?_)
  refine st0.sq (
    sc rfl (oA rfl cI) <| .nil) [1] rfl [(0, 0)] rfl ⟨fun _ h => h, trivial⟩ (fun a1 w1 st1 => ?_)
  refine wp_seq ?_
  refine wp_region_list ?_
  obtain ⟨v2, p2, h3⟩ := bs h
  refine st1.seg 8 (
    sc rfl (oM rfl (tp rfl)) <|
    sc rfl (oM rfl (tp rfl)) <|
    sc rfl (xNcN rfl rfl) <|
    sc rfl (xFa rfl kF132_1 (opd_nm rfl)) <|
    sc rfl (xLf (sb := 0) ((PV.root.box rfl).fld Reader.z1) rfl kT3 (tp rfl) rfl) <|
    sc rfl (xAr rfl (tp rfl) cI p2) <|
    sc rfl (xNcN rfl rfl) <|
    sc rfl (xFa rfl kF132_1 (opd_nm rfl)) <| .nil) [1, 12, 14] rfl [(0, 0)] rfl ⟨fun _ h => h, trivial⟩ (fun a4 w4 st4 => ?_)
  refine st4.stF (sb := 0) 0 ((PV.root.box rfl).fld Reader.z1) rfl rfl rfl kT3 (by simp) (tp rfl) (tp rfl) rfl rfl (fun _ h => h) [1] rfl [] rfl rfl (fun w5 st5 => ?_)
  refine wpList_nil ?_
  refine then_normal ?_
  refine wp_seq ?_
  refine st5.sq (
    sc rfl (oM rfl (tp rfl)) <|
    sc rfl (oCI rfl (tp rfl) cI) <|
    sc rfl (oM rfl (tp rfl)) <|
    sg rfl rfl (fun hg => oM rfl (opd_nm rfl)) <|
    sg rfl rfl (fun hg => xNc rfl (opd_g hg rfl)) <|
    sg rfl rfl (fun hg => xFa rfl kF132_0 (opd_g hg rfl)) <|
    sg rfl rfl (fun hg => xLf (sb := 0) ((PV.root.box rfl).fld Reader.z0) rfl kT36 (opd_g hg rfl) rfl) <|
    sg rfl rfl (fun hg => op_lenL rfl kL36 (opd_g hg rfl)) <|
    sg rfl rfl (fun hg => oCI rfl (opd_g hg rfl) cI) <|
    sc rfl (op_or rfl (tp rfl) (opd_tmp rfl)) <| .nil) [1, 24] rfl [(0, 0)] rfl ⟨fun _ h => h, trivial⟩ (fun a6 w6 st6 => ?_)
  refine st6.cs (c := 24) rfl h3 (fun c7 h7 => ?_) (fun c8 h8 => ?_)
  ·
    refine st6.sq (
      sc rfl (oA rfl cI) <| .nil) [4] rfl [(0, 0)] rfl ⟨fun _ h => h, trivial⟩ (fun a9 w9 st9 => ?_)
    refine wp_ret (thn_ret ?_)
    exact st9.rsF (s := 0) 0 rfl rfl rfl (fun _ h => h) (bxr h7) flat_int
  ·
    refine wp_skip ?_
    refine then_normal ?_
    obtain ⟨v10, p10, h11⟩ := bs h8
    refine st6.sq (
      sc rfl (oM rfl (tp rfl)) <|
      sc rfl (xNcN rfl rfl) <|
      sc rfl (xFa rfl kF132_1 (opd_nm rfl)) <|
      sc rfl (xLf (sb := 0) ((PV.root.box rfl).fld Reader.z1) rfl kT3 (tp rfl) rfl) <|
      sc rfl (xAr rfl (tp rfl) cI p10) <|
      sc rfl (oA rfl (tp rfl)) <| .nil) [1, 5] rfl [(0, 0)] rfl ⟨fun _ h => h, trivial⟩ (fun a12 w12 st12 => ?_)
    refine wp_seq ?_
    refine st12.sq (
      sc rfl (oM rfl (tp rfl)) <|
      sc rfl (oM rfl (tp rfl)) <|
      sc rfl (xNcN rfl rfl) <|
      sc rfl (xFa rfl kF132_0 (opd_nm rfl)) <|
      sc rfl (xLf (sb := 0) ((PV.root.box rfl).fld Reader.z0) rfl kT36 (tp rfl) rfl) <|
      sc rfl (op_lenL rfl kL36 (tp rfl)) <|
      sc rfl (oCI rfl (tp rfl) (tp rfl)) <| .nil) [1, 5, 36] rfl [(0, 0)] rfl ⟨fun _ h => h, trivial⟩ (fun a13 w13 st13 => ?_)
    refine st13.cs (c := 36) rfl h11 (fun c14 h14 => ?_) (fun c15 h15 => ?_)
    ·
      obtain ⟨v16, p16, h18⟩ := bs h14
      obtain ⟨v17, p17, h19⟩ := bs h18
      refine st13.sq (
        sc rfl (oM rfl (tp rfl)) <|
        sc rfl (xNcN rfl rfl) <|
        sc rfl (xFa rfl kF132_0 (opd_nm rfl)) <|
        sc rfl (xLf (sb := 0) ((PV.root.box rfl).fld Reader.z0) rfl kT36 (tp rfl) rfl) <|
        sc rfl (oM rfl (tp rfl)) <|
        sc rfl (xIdx rfl kS36 (tp rfl) (tp rfl) p16) <|
        sc rfl (op_load rfl kT5 (tp rfl)) <|
        sc rfl (xCvI rfl kCv5_3 (tp rfl)) <|
        sc rfl (oM rfl (tp rfl)) <|
        sc rfl (xMod rfl (tp rfl) (tp rfl) p17) <|
        sc rfl (oA rfl (tp rfl)) <| .nil) [4] rfl [(0, 0)] rfl ⟨fun _ h => h, trivial⟩ (fun a20 w20 st20 => ?_)
      refine wp_ret (thn_ret ?_)
      exact st20.rsF (s := 0) 0 rfl rfl rfl (fun _ h => h) (bxr h19) flat_int
    ·
      refine wp_skip ?_
      refine then_normal ?_
      refine wp_seq ?_
      obtain ⟨v21, p21, h35⟩ := bs h15
      obtain ⟨v22, p22, h36⟩ := bs h35
      obtain ⟨v23, p23, h37⟩ := bs h36
      obtain ⟨v24, p24, h38⟩ := bs h37
      obtain ⟨v25, p25, h39⟩ := bs h38
      obtain ⟨v26, p26, h40⟩ := bs h39
      obtain ⟨v27, p27, h41⟩ := bs h40
      obtain ⟨v28, p28, h42⟩ := bs h41
      obtain ⟨v29, p29, h43⟩ := bs h42
      obtain ⟨v30, p30, h44⟩ := bs h43
      obtain ⟨v31, p31, h45⟩ := bs h44
      obtain ⟨v32, p32, h46⟩ := bs h45
      obtain ⟨v33, p33, h47⟩ := bs h46
      obtain ⟨v34, p34, h48⟩ := bs h47
      refine st13.dr (D := [_, _, _, _, _, _, _, _, _, _, _, _, _, _, _, _, _, _, _, _, _, _, _, _, _, _, _, _, _, _, _, _, _, _, _, _, _, _, _, _, _, _, _, _, _, _]) Tryz_mixed [[], [0], [0, 1], [0, 1, 2], [], [], [5], [5, 6], [5, 6, 7], [5, 6, 7, 8], [4, 5, 6, 7, 8, 9], [0, 1, 2, 3, 4, 5, 6, 7, 8, 9, 10], [0, 1, 2, 3, 4, 5, 6, 7, 8, 9, 10, 11], [0, 1, 2, 3, 4, 5, 6, 7, 8, 9, 10, 11, 12], [0, 1, 2, 3, 4, 5, 6, 7, 8, 9, 10, 11, 12, 13], [], [15], [15, 16], [15, 16, 17], [], [19], [19, 20], [], [22], [22, 23], [22, 23, 24], [22, 23, 24, 25], [19, 20, 21, 22, 23, 24, 25, 26], [15, 16, 17, 18, 19, 20, 21, 22, 23, 24, 25, 26, 27], [15, 16, 17, 18, 19, 20, 21, 22, 23, 24, 25, 26, 27, 28], [15, 16, 17, 18, 19, 20, 21, 22, 23, 24, 25, 26, 27, 28, 29], [15, 16, 17, 18, 19, 20, 21, 22, 23, 24, 25, 26, 27, 28, 29, 30], [0, 1, 2, 3, 4, 5, 6, 7, 8, 9, 10, 11, 12, 13, 14, 15, 16, 17, 18, 19, 20, 21, 22, 23, 24, 25, 26, 27, 28, 29, 30, 31], [], [33], [0, 1, 2, 3, 4, 5, 6, 7, 8, 9, 10, 11, 12, 13, 14, 15, 16, 17, 18, 19, 20, 21, 22, 23, 24, 25, 26, 27, 28, 29, 30, 31, 32, 33, 34], [], [], [37], [37, 38], [37, 38, 39], [37, 38, 39, 40], [36, 37, 38, 39, 40, 41], [36, 37, 38, 39, 40, 41, 42], [0, 1, 2, 3, 4, 5, 6, 7, 8, 9, 10, 11, 12, 13, 14, 15, 16, 17, 18, 19, 20, 21, 22, 23, 24, 25, 26, 27, 28, 29, 30, 31, 32, 33, 34, 35, 36, 37, 38, 39, 40, 41, 42, 43], [0, 1, 2, 3, 4, 5, 6, 7, 8, 9, 10, 11, 12, 13, 14, 15, 16, 17, 18, 19, 20, 21, 22, 23, 24, 25, 26, 27, 28, 29, 30, 31, 32, 33, 34, 35, 36, 37, 38, 39, 40, 41, 42, 43, 44]] [[(0, none)], [(47, some 0)], [(48, some 1)], [(49, some 2), (0, none)], [(5, none)], [(0, none)], [(52, some 5)], [(53, some 6)], [(54, some 7), (0, none)], [(55, some 8)], [(51, some 4), (56, some 9)], [(50, some 3), (57, some 10)], [(58, some 11)], [(59, some 12)], [(60, some 13)], [(0, none)], [(62, some 15)], [(63, some 16)], [(64, some 17), (0, none)], [(5, none)], [(66, some 19)], [(67, some 20)], [(0, none)], [(69, some 22)], [(70, some 23)], [(71, some 24), (0, none)], [(72, some 25)], [(68, some 21), (73, some 26)], [(65, some 18), (74, some 27)], [(75, some 28)], [(76, some 29)], [(77, some 30)], [(61, some 14), (78, some 31)], [(5, none)], [(80, some 33)], [(79, some 32), (81, some 34)], [(5, none)], [(0, none)], [(84, some 37)], [(85, some 38)], [(86, some 39), (0, none)], [(87, some 40)], [(83, some 36), (88, some 41)], [(89, some 42)], [(82, some 35), (90, some 43)], [(91, some 44)]] (by decide +kernel) (
        rc rfl rfl (oM rfl (tp rfl)) <|
        rc rfl rfl (xNcN rfl rfl) <|
        rc rfl rfl (xFa rfl kF132_0 (opd_nm rfl)) <|
        rc rfl rfl (xLf (sb := 0) ((PV.root.box rfl).fld Reader.z0) rfl kT36 (tp rfl) rfl) <|
        rc rfl rfl (oM rfl (tp rfl)) <|
        rc rfl rfl (oM rfl (tp rfl)) <|
        rc rfl rfl (xNcN rfl rfl) <|
        rc rfl rfl (xFa rfl kF132_0 (opd_nm rfl)) <|
        rc rfl rfl (xLf (sb := 0) ((PV.root.box rfl).fld Reader.z0) rfl kT36 (tp rfl) rfl) <|
        rc rfl rfl (op_lenL rfl kL36 (tp rfl)) <|
        rc rfl rfl (xMod rfl (tp rfl) (tp rfl) p21) <|
        rc rfl rfl (xIdx rfl kS36 (tp rfl) (tp rfl) p22) <|
        rc rfl rfl (op_load rfl kT5 (tp rfl)) <|
        rc rfl rfl (xCvI rfl kCv5_3 (tp rfl)) <|
        rc rfl rfl (xAr rfl (tp rfl) cI p23) <|
        rc rfl rfl (oM rfl (tp rfl)) <|
        rc rfl rfl (xNcN rfl rfl) <|
        rc rfl rfl (xFa rfl kF132_0 (opd_nm rfl)) <|
        rc rfl rfl (xLf (sb := 0) ((PV.root.box rfl).fld Reader.z0) rfl kT36 (tp rfl) rfl) <|
        rc rfl rfl (oM rfl (tp rfl)) <|
        rc rfl rfl (xAr rfl (tp rfl) cI p24) <|
        rc rfl rfl (xAr rfl (tp rfl) cI p25) <|
        rc rfl rfl (oM rfl (tp rfl)) <|
        rc rfl rfl (xNcN rfl rfl) <|
        rc rfl rfl (xFa rfl kF132_0 (opd_nm rfl)) <|
        rc rfl rfl (xLf (sb := 0) ((PV.root.box rfl).fld Reader.z0) rfl kT36 (tp rfl) rfl) <|
        rc rfl rfl (op_lenL rfl kL36 (tp rfl)) <|
        rc rfl rfl (xMod rfl (tp rfl) (tp rfl) p26) <|
        rc rfl rfl (xIdx rfl kS36 (tp rfl) (tp rfl) p27) <|
        rc rfl rfl (op_load rfl kT5 (tp rfl)) <|
        rc rfl rfl (xCvI rfl kCv5_3 (tp rfl)) <|
        rc rfl rfl (xAr rfl (tp rfl) cI p28) <|
        rc rfl rfl (xAr rfl (tp rfl) (tp rfl) p29) <|
        rc rfl rfl (oM rfl (tp rfl)) <|
        rc rfl rfl (xAr rfl (tp rfl) cI p30) <|
        rc rfl rfl (xAr rfl (tp rfl) (tp rfl) p31) <|
        rc rfl rfl (oM rfl (tp rfl)) <|
        rc rfl rfl (oM rfl (tp rfl)) <|
        rc rfl rfl (xNcN rfl rfl) <|
        rc rfl rfl (xFa rfl kF132_0 (opd_nm rfl)) <|
        rc rfl rfl (xLf (sb := 0) ((PV.root.box rfl).fld Reader.z0) rfl kT36 (tp rfl) rfl) <|
        rc rfl rfl (op_lenL rfl kL36 (tp rfl)) <|
        rc rfl rfl (xDiv rfl (tp rfl) (tp rfl) p32) <|
        rc rfl rfl (xAr rfl (tp rfl) cI p33) <|
        rc rfl rfl (xAr rfl (tp rfl) (tp rfl) p34) <|
        rc rfl rfl (oA rfl (tp rfl)) <| .nil) [1, 6] rfl [(0, 0)] rfl ⟨fun _ h => h, trivial⟩ (fun a49 w49 st49 => ?_)
      refine then_normal ?_
      obtain ⟨v50, p50, h51⟩ := bs h48
      refine st49.sq (
        sc rfl (oM rfl (tp rfl)) <|
        sc rfl (oM rfl (tp rfl)) <|
        sc rfl (xDiv rfl (tp rfl) cI p50) <|
        sc rfl (xXor rfl (tp rfl) (tp rfl)) <|
        sc rfl (oA rfl (tp rfl)) <| .nil) [1, 6] rfl [(0, 0)] rfl ⟨fun _ h => h, trivial⟩ (fun a52 w52 st52 => ?_)
      obtain ⟨v53, p53, h54⟩ := bs h51
      refine st52.sq (
        sc rfl (oM rfl (tp rfl)) <|
        sc rfl (oM rfl (tp rfl)) <|
        sc rfl (xMod rfl (tp rfl) (tp rfl) p53) <|
        sc rfl (oA rfl (tp rfl)) <| .nil) [4] rfl [(0, 0)] rfl ⟨fun _ h => h, trivial⟩ (fun a55 w55 st55 => ?_)
      refine wp_ret ?_
      exact st55.rsF (s := 0) 0 rfl rfl rfl (fun _ h => h) (bxr h54) flat_int

def m_spec_reader_one (x0 : Reader) (x1 : List Int) : Option (Reader × Int) :=
(m_spec_reader_pick x0 (x1.length : Int)).bind fun v4 =>
(atI x1 v4.2).bind fun v6 =>
some (v4.1, v6)

theorem spec_reader_one_w {x0 : Reader} {x1 : List Int} {r : Reader × Int} (h : m_spec_reader_one x0 x1 = some r) : FnS Tryz.prog 117 (Ow.box (Ow.frz (α := Reader))) ⟨x0⟩ [dt x1] ⟨r.1⟩ (.frz (dt r.2)) := by
  unfold m_spec_reader_one at h
  refine fnSB (fn := Tryz.f117) 0 1 Tryz.func117 rfl (of_decide_eq_true rfl) rfl (fun M G w0 b0 a0 st0 => ?_)
  refine st0.sq (
    sc rfl (oA rfl cI) <| .nil) [1] rfl [(0, 0)] rfl ⟨fun _ h => h, trivial⟩ (fun a1 w1 st1 => ?_)
  refine wp_seq ?_
  refine wp_region_list ?_
  refine st1.seg 4 (
    sc rfl (oM rfl (tp rfl)) <|
    sc rfl (oM rfl (tp rfl)) <|
    sc rfl (oM rfl (tp rfl)) <|
    sc rfl (op_lenL rfl kL25 (tp rfl)) <| .nil) [5, 8] rfl [(0, 0), (6, 0)] rfl ⟨fun _ h => h, ⟨fun _ h => h, trivial⟩⟩ (fun a2 w2 st2 => ?_)
  obtain ⟨v4, p4, h5⟩ := bs h
  refine st2.cSF (l := [.tmp 8]) 0 (st2.bkN (s := 0) rfl (fun _ h => h)) rfl rfl kN116 ((st2.st.has 6 _ rfl).1.trans (st2.st.has 0 _ rfl).1.symm) (by simp) (.cons (tp rfl) .nil) (spec_reader_pick_w p4) [5] rfl [] rfl rfl (by decide) (fun G3 M3 a3 w3 st3 => ?_)
  obtain ⟨v6, p6, h7⟩ := bs h5
  refine st3.seg 3 (
    sc rfl (xIdx rfl kS25 (tp rfl) (tp rfl) p6) <|
    sc rfl (op_load rfl kT3 (tp rfl)) <|
    sc rfl (oA rfl (tp rfl)) <| .nil) [4] rfl [(0, 0)] rfl ⟨fun _ h => h, trivial⟩ (fun a8 w8 st8 => ?_)
  refine wpList_nil ?_
  refine then_normal ?_
  refine wp_ret ?_
  exact st8.rsF (s := 0) 0 rfl rfl rfl (fun _ h => h) (bxr h7) flat_int

def m_spec_reader_of (x0 : Reader) (x1 : List Str) : Option (Reader × Str) :=
(m_spec_reader_pick x0 (x1.length : Int)).bind fun v4 =>
(atI x1 v4.2).bind fun v6 =>
some (v4.1, v6)

theorem spec_reader_of_w {x0 : Reader} {x1 : List Str} {r : Reader × Str} (h : m_spec_reader_of x0 x1 = some r) : FnS Tryz.prog 165 (Ow.box (Ow.frz (α := Reader))) ⟨x0⟩ [dt x1] ⟨r.1⟩ (.frz (dt r.2)) := by
  unfold m_spec_reader_of at h
  refine fnSB (fn := Tryz.f165) 0 1 Tryz.func165 rfl (of_decide_eq_true rfl) rfl (fun M G w0 b0 a0 st0 => ?_)
  refine st0.sq (
    sc rfl (oA rfl (opd_str (by decide))) <| .nil) [1] rfl [(0, 0)] rfl ⟨fun _ h => h, trivial⟩ (fun a1 w1 st1 => ?_)
  refine wp_seq ?_
  refine wp_region_list ?_
  refine st1.seg 4 (
    sc rfl (oM rfl (tp rfl)) <|
    sc rfl (oM rfl (tp rfl)) <|
    sc rfl (oM rfl (tp rfl)) <|
    sc rfl (op_lenL rfl kL47 (tp rfl)) <| .nil) [5, 8] rfl [(0, 0), (6, 0)] rfl ⟨fun _ h => h, ⟨fun _ h => h, trivial⟩⟩ (fun a2 w2 st2 => ?_)
  obtain ⟨v4, p4, h5⟩ := bs h
  refine st2.cSF (l := [.tmp 8]) 0 (st2.bkN (s := 0) rfl (fun _ h => h)) rfl rfl kN116 ((st2.st.has 6 _ rfl).1.trans (st2.st.has 0 _ rfl).1.symm) (by simp) (.cons (tp rfl) .nil) (spec_reader_pick_w p4) [5] rfl [] rfl rfl (by decide) (fun G3 M3 a3 w3 st3 => ?_)
  obtain ⟨v6, p6, h7⟩ := bs h5
  refine st3.seg 3 (
    sc rfl (xIdx rfl kS47 (tp rfl) (tp rfl) p6) <|
    sc rfl (op_load rfl kT9 (tp rfl)) <|
    sc rfl (oA rfl (tp rfl)) <| .nil) [4] rfl [(0, 0)] rfl ⟨fun _ h => h, trivial⟩ (fun a8 w8 st8 => ?_)
  refine wpList_nil ?_
  refine then_normal ?_
  refine wp_ret ?_
  exact st8.rsF (s := 0) 0 rfl rfl rfl (fun _ h => h) (bxr h7) flat_str

def m_spec_aPart (x0 : Reader) : Option (Reader × Str) :=
(m_spec_reader_of x0 ([(⟨[97]⟩ : Str), (⟨[98]⟩ : Str), (⟨[99]⟩ : Str), (⟨[97]⟩ : Str), (⟨[98]⟩ : Str)] : List Str)).bind fun v4 =>
some (v4.1, v4.2)

theorem spec_aPart_w {x0 : Reader} {r : Reader × Str} (h : m_spec_aPart x0 = some r) : FnS Tryz.prog 182 (Ow.box (Ow.frz (α := Reader))) ⟨x0⟩ [] ⟨r.1⟩ (.frz (dt r.2)) := by
  unfold m_spec_aPart at h
  refine fnSB (fn := Tryz.f182) 0 1 Tryz.func182 rfl (of_decide_eq_true rfl) rfl (fun M G w0 b0 a0 st0 => ?_)
  refine st0.sq (
    sc rfl (oA rfl (opd_str (by decide))) <| .nil) [] rfl [(0, 0)] rfl ⟨fun _ h => h, trivial⟩ (fun a1 w1 st1 => ?_)
  refine wp_seq ?_
  refine wp_region_list ?_
  refine st1.seg 2 (
    sc rfl (oM rfl (tp rfl)) <|
    sc rfl (op_lit (opds := [_, _, _, _, _]) rfl kS47 kY47 rfl rfl (by decide) (.cons (opd_str (by decide)) (.cons (opd_str (by decide)) (.cons (opd_str (by decide)) (.cons (opd_str (by decide)) (.cons (opd_str (by decide)) .nil)))))) <| .nil) [4] rfl [(0, 0), (3, 0)] rfl ⟨fun _ h => h, ⟨fun _ h => h, trivial⟩⟩ (fun a2 w2 st2 => ?_)
  obtain ⟨v4, p4, h5⟩ := bs h
  refine st2.cSF (l := [.tmp 4]) 0 (st2.bkN (s := 0) rfl (fun _ h => h)) rfl rfl kN165 ((st2.st.has 3 _ rfl).1.trans (st2.st.has 0 _ rfl).1.symm) (by simp) (.cons (tp rfl) .nil) (spec_reader_of_w p4) [] rfl [] rfl rfl (by decide) (fun G3 M3 a3 w3 st3 => ?_)
  refine st3.seg 1 (
    sc rfl (oA rfl (tp rfl)) <| .nil) [2] rfl [(0, 0)] rfl ⟨fun _ h => h, trivial⟩ (fun a6 w6 st6 => ?_)
  refine wpList_nil ?_
  refine then_normal ?_
  refine wp_ret ?_
  exact st6.rsF (s := 0) 0 rfl rfl rfl (fun _ h => h) (bxr h5) flat_str

def m_spec_aName_s0 (s13 : Reader × Str × Int) : Option ((Reader × Str × Int) ⊕ (Reader × Str)) :=
if (cmpI .gtr s13.2.2 (0 : Int)) = true then ((catO s13.2.1 (⟨[46]⟩ : Str)).bind fun v18 =>
(m_spec_aPart s13.1).bind fun v22 =>
(catO v18 v22.2).bind fun v24 =>
(i64 (s13.2.2 - (1 : Int))).bind fun v27 =>
some (.inl (v22.1, v24, v27)))
else (some (.inr (s13.1, s13.2.1)))

def m_spec_aName (x0 : Reader) : Option (Reader × Str) :=
(m_spec_aPart x0).bind fun v4 =>
Option.bind (α := Reader × Str) ((m_spec_reader_one v4.1 ([(0 : Int), (1 : Int), (0 : Int), (1 : Int), (2 : Int)] : List Int)).bind fun v10 =>
loopM (fun s13 => m_spec_aName_s0 s13) (v10.1, v4.2, v10.2)) fun o7 =>
some (o7.1, o7.2)

theorem spec_aName_w {x0 : Reader} {r : Reader × Str} (h : m_spec_aName x0 = some r) : FnS Tryz.prog 156 (Ow.box (Ow.frz (α := Reader))) ⟨x0⟩ [] ⟨r.1⟩ (.frz (dt r.2)) := by
  unfold m_spec_aName at h
  refine fnSB (fn := Tryz.f156) 0 1 Tryz.func156 rfl (of_decide_eq_true rfl) rfl (fun M G w0 b0 a0 st0 => ?_)
  refine st0.sq (
    sc rfl (oA rfl (opd_str (by decide))) <| .nil) [] rfl [(0, 0)] rfl ⟨fun _ h => h, trivial⟩ (fun a1 w1 st1 => ?_)
  refine wp_seq ?_
  refine wp_region_list ?_
  refine st1.seg 1 (
    sc rfl (oM rfl (tp rfl)) <| .nil) [] rfl [(0, 0), (5, 0)] rfl ⟨fun _ h => h, ⟨fun _ h => h, trivial⟩⟩ (fun a2 w2 st2 => ?_)
  obtain ⟨v4, p4, h5⟩ := bs h
  refine st2.cSF (l := []) 0 (st2.bkN (s := 0) rfl (fun _ h => h)) rfl rfl kN182 ((st2.st.has 5 _ rfl).1.trans (st2.st.has 0 _ rfl).1.symm) (by simp) .nil (spec_aPart_w p4) [] rfl [] rfl rfl (by decide) (fun G3 M3 a3 w3 st3 => ?_)
  refine st3.seg 1 (
    sc rfl (oA rfl (tp rfl)) <| .nil) [3] rfl [(0, 0)] rfl ⟨fun _ h => h, trivial⟩ (fun a6 w6 st6 => ?_)
  refine wpList_nil ?_
  refine then_normal ?_
  obtain ⟨o7, p7, k7⟩ := bs h5
  refine wp_seq_join (fun a w => ∃ M1 q7_0, Sx (Frm.chg w0 G) 20 M M1 [q7_0] [(3, dt o7.2)] [(0, 0, dnm (Ow.box (Ow.frz (α := Reader))) q7_0 ⟨o7.1⟩ (.pointer (some ⟨b0, 0, none⟩)) [])] a w) ?_ ?_
  ·
    refine wp_seq ?_
    refine wp_region_list ?_
    refine st6.seg 2 (
      sc rfl (oM rfl (tp rfl)) <|
      sc rfl (op_lit (opds := [.const (.int .i64 0), .const (.int .i64 1), .const (.int .i64 0), .const (.int .i64 1), .const (.int .i64 2)]) rfl kS25 kY25 rfl rfl (by decide) (.cons cI (.cons cI (.cons cI (.cons cI (.cons cI .nil)))))) <| .nil) [3, 8] rfl [(0, 0), (7, 0)] rfl ⟨fun _ h => h, ⟨fun _ h => h, trivial⟩⟩ (fun a8 w8 st8 => ?_)
    obtain ⟨v10, p10, h11⟩ := bs p7
    refine st8.cSF (l := [.tmp 8]) 0 (st8.bkN (s := 0) rfl (fun _ h => h)) rfl rfl kN117 ((st8.st.has 7 _ rfl).1.trans (st8.st.has 0 _ rfl).1.symm) (by simp) (.cons (tp rfl) .nil) (spec_reader_one_w p10) [3] rfl [] rfl rfl (by decide) (fun G9 M9 a9 w9 st9 => ?_)
    refine st9.seg 1 (
      sc rfl (oA rfl (tp rfl)) <| .nil) [3, 4] rfl [(0, 0)] rfl ⟨fun _ h => h, trivial⟩ (fun a12 w12 st12 => ?_)
    refine wpList_nil ?_
    refine then_normal ?_
    refine wp_block ?_
    refine loop_model h11 (fun s13 a w => ∃ M1 q13_0, Sx (Frm.chg w0 G) 20 M M1 [q13_0] [(3, dt s13.2.1), (4, dt s13.2.2)] [(0, 0, dnm (Ow.box (Ow.frz (α := Reader))) q13_0 ⟨s13.1⟩ (.pointer (some ⟨b0, 0, none⟩)) [])] a w) ⟨_, _, st12.sel [3, 4] rfl [(0, 0)] rfl ⟨fun _ h => h, trivial⟩⟩ ?_
    rintro s13 x13 a13 w13 ⟨M13, q13_0, st13⟩ hs13 hx13
    have h14 : m_spec_aName_s0 s13 = some x13 := hs13
    unfold m_spec_aName_s0 at h14
    refine wp_seq ?_
    refine st13.sq (
        sc rfl (oM rfl (tp rfl)) <|
        sc rfl (oCI rfl (tp rfl) cI) <| .nil) [3, 4, 11] rfl [(0, 0)] rfl ⟨fun _ h => h, trivial⟩ (fun a15 w15 st15 => ?_)
    refine st15.cs (c := 11) rfl h14 (fun c16 h16 => ?_) (fun c17 h17 => ?_)
    ·
      refine wp_skip ?_
      refine then_normal ?_
      refine wp_seq ?_
      refine wp_block ?_
      refine wp_region_list ?_
      obtain ⟨v18, p18, h19⟩ := bs h16
      refine st15.seg 3 (
          sc rfl (oM rfl (tp rfl)) <|
          sc rfl (xCat rfl (tp rfl) (opd_str (by decide)) p18) <|
          sc rfl (oM rfl (tp rfl)) <| .nil) [3, 4, 15] rfl [(0, 0), (16, 0)] rfl ⟨fun _ h => h, ⟨fun _ h => h, trivial⟩⟩ (fun a20 w20 st20 => ?_)
      obtain ⟨v22, p22, h23⟩ := bs h19
      refine st20.cSF (l := []) 0 (st20.bkN (s := 0) rfl (fun _ h => h)) rfl rfl kN182 ((st20.st.has 16 _ rfl).1.trans (st20.st.has 0 _ rfl).1.symm) (by simp) .nil (spec_aPart_w p22) [3, 4, 15] rfl [] rfl rfl (by decide) (fun G21 M21 a21 w21 st21 => ?_)
      obtain ⟨v24, p24, h25⟩ := bs h23
      refine st21.seg 2 (
          sc rfl (xCat rfl (tp rfl) (tp rfl) p24) <|
          sc rfl (oA rfl (tp rfl)) <| .nil) [3, 4] rfl [(0, 0)] rfl ⟨fun _ h => h, trivial⟩ (fun a26 w26 st26 => ?_)
      refine wpList_nil ?_
      refine blk_normal ?_
      refine then_normal ?_
      obtain ⟨v27, p27, h28⟩ := bs h25
      refine st26.rg (
          sc rfl (oM rfl (tp rfl)) <|
          sc rfl (xAr rfl (tp rfl) cI p27) <|
          sc rfl (oA rfl (tp rfl)) <| .nil) [3, 4] rfl [(0, 0)] rfl ⟨fun _ h => h, trivial⟩ (fun a29 w29 st29 => ?_)
      refine then_normal ?_
      exact ⟨_, (Option.some.inj h28).symm, ⟨_, _, st29.sel [3, 4] rfl [(0, 0)] rfl ⟨fun _ h => h, trivial⟩⟩⟩
    ·
      refine wp_exit (thn_exit (thn_exit (exit_here ?_)))
      refine then_normal ?_
      have h30 := lo h17 hx13
      obtain rfl := Option.some.inj h30
      exact ⟨_, _, st15.sel [3] rfl [(0, 0)] rfl ⟨fun _ h => h, trivial⟩⟩
  · rintro a7 w7 ⟨M7, q7_0, st7⟩
    have h31 := k7
    refine st7.sq (
      sc rfl (oM rfl (tp rfl)) <|
      sc rfl (oA rfl (tp rfl)) <| .nil) [2] rfl [(0, 0)] rfl ⟨fun _ h => h, trivial⟩ (fun a32 w32 st32 => ?_)
    refine wp_ret ?_
    exact st32.rsF (s := 0) 0 rfl rfl rfl (fun _ h => h) (bxr h31) flat_str

def m_spec_anyName (x0 : Reader) : Option (Reader × Str) :=
(m_spec_aName x0).bind fun v4 =>
(m_spec_reader_pick v4.1 (20 : Int)).bind fun v9 =>
if (cmpI .eql v9.2 (0 : Int)) = true then ((catO v4.2 (⟨[46]⟩ : Str)).bind fun v14 =>
some (v9.1, v14))
else (if (cmpI .eql v9.2 (1 : Int)) = true then ((m_spec_reader_of v9.1 ([(⟨[]⟩ : Str), (⟨[97, 46, 46, 98]⟩ : Str), (⟨[97, 46, 98, 46, 99, 46, 100]⟩ : Str), (⟨[65]⟩ : Str), (⟨[97, 98, 99, 100]⟩ : Str)] : List Str)).bind fun v22 =>
some (v22.1, v22.2))
else (some (v9.1, v4.2)))

theorem spec_anyName_w {x0 : Reader} {r : Reader × Str} (h : m_spec_anyName x0 = some r) : FnS Tryz.prog 127 (Ow.box (Ow.frz (α := Reader))) ⟨x0⟩ [] ⟨r.1⟩ (.frz (dt r.2)) := by
  unfold m_spec_anyName at h
  refine fnSB (fn := Tryz.f127) 0 1 Tryz.func127 rfl (of_decide_eq_true rfl) rfl (fun M G w0 b0 a0 st0 => ?_)
  refine st0.sq (
    sc rfl (oA rfl (opd_str (by decide))) <| .nil) [] rfl [(0, 0)] rfl ⟨fun _ h => h, trivial⟩ (fun a1 w1 st1 => ?_)
  refine wp_seq ?_
  refine wp_region_list ?_
  refine st1.seg 1 (
    sc rfl (oM rfl (tp rfl)) <| .nil) [] rfl [(0, 0), (4, 0)] rfl ⟨fun _ h => h, ⟨fun _ h => h, trivial⟩⟩ (fun a2 w2 st2 => ?_)
  obtain ⟨v4, p4, h5⟩ := bs h
  refine st2.cSF (l := []) 0 (st2.bkN (s := 0) rfl (fun _ h => h)) rfl rfl kN156 ((st2.st.has 4 _ rfl).1.trans (st2.st.has 0 _ rfl).1.symm) (by simp) .nil (spec_aName_w p4) [] rfl [] rfl rfl (by decide) (fun G3 M3 a3 w3 st3 => ?_)
  refine st3.seg 1 (
    sc rfl (oA rfl (tp rfl)) <| .nil) [3] rfl [(0, 0)] rfl ⟨fun _ h => h, trivial⟩ (fun a6 w6 st6 => ?_)
  refine wpList_nil ?_
  refine then_normal ?_
  refine wp_seq ?_
  refine wp_seq ?_
  refine wp_region_list ?_
  refine st6.seg 1 (
    sc rfl (oM rfl (tp rfl)) <| .nil) [3] rfl [(0, 0), (6, 0)] rfl ⟨fun _ h => h, ⟨fun _ h => h, trivial⟩⟩ (fun a7 w7 st7 => ?_)
  obtain ⟨v9, p9, h10⟩ := bs h5
  refine st7.cSF (l := [.const (.int .i64 20)]) 0 (st7.bkN (s := 0) rfl (fun _ h => h)) rfl rfl kN116 ((st7.st.has 6 _ rfl).1.trans (st7.st.has 0 _ rfl).1.symm) (by simp) (.cons cI .nil) (spec_reader_pick_w p9) [3] rfl [] rfl rfl (by decide) (fun G8 M8 a8 w8 st8 => ?_)
  refine wpList_nil ?_
  refine then_normal ?_
  refine wp_block ?_
  refine st8.sq (
    sc rfl (oCI rfl (tp rfl) cI) <|
    sc rfl (oA rfl (tp rfl)) <| .nil) [3, 7, 8] rfl [(0, 0)] rfl ⟨fun _ h => h, trivial⟩ (fun a11 w11 st11 => ?_)
  refine st11.cs (c := 8) rfl h10 (fun c12 h12 => ?_) (fun c13 h13 => ?_)
  ·
    obtain ⟨v14, p14, h15⟩ := bs h12
    refine st11.sq (
      sc rfl (oM rfl (tp rfl)) <|
      sc rfl (xCat rfl (tp rfl) (opd_str (by decide)) p14) <|
      sc rfl (oA rfl (tp rfl)) <| .nil) [2] rfl [(0, 0)] rfl ⟨fun _ h => h, trivial⟩ (fun a16 w16 st16 => ?_)
    refine wp_ret (blk_ret (thn_ret ?_))
    exact st16.rsF (s := 0) 0 rfl rfl rfl (fun _ h => h) (bxr h15) flat_str
  ·
    refine st11.sq (
      sc rfl (oCI rfl (tp rfl) cI) <|
      sc rfl (oA rfl (tp rfl)) <| .nil) [3, 12] rfl [(0, 0)] rfl ⟨fun _ h => h, trivial⟩ (fun a17 w17 st17 => ?_)
    refine st17.cs (c := 12) rfl h13 (fun c18 h18 => ?_) (fun c19 h19 => ?_)
    ·
      refine wp_seq ?_
      refine wp_region_list ?_
      refine st17.seg 2 (
        sc rfl (oM rfl (tp rfl)) <|
        sc rfl (op_lit (opds := [_, _, _, _, _]) rfl kS47 kY47 rfl rfl (by decide) (.cons (opd_str (by decide)) (.cons (opd_str (by decide)) (.cons (opd_str (by decide)) (.cons (opd_str (by decide)) (.cons (opd_str (by decide)) .nil)))))) <| .nil) [15] rfl [(0, 0), (14, 0)] rfl ⟨fun _ h => h, ⟨fun _ h => h, trivial⟩⟩ (fun a20 w20 st20 => ?_)
      obtain ⟨v22, p22, h23⟩ := bs h18
      refine st20.cSF (l := [.tmp 15]) 0 (st20.bkN (s := 0) rfl (fun _ h => h)) rfl rfl kN165 ((st20.st.has 14 _ rfl).1.trans (st20.st.has 0 _ rfl).1.symm) (by simp) (.cons (tp rfl) .nil) (spec_reader_of_w p22) [] rfl [] rfl rfl (by decide) (fun G21 M21 a21 w21 st21 => ?_)
      refine st21.seg 1 (
        sc rfl (oA rfl (tp rfl)) <| .nil) [2] rfl [(0, 0)] rfl ⟨fun _ h => h, trivial⟩ (fun a24 w24 st24 => ?_)
      refine wpList_nil ?_
      refine then_normal ?_
      refine wp_ret (blk_ret (thn_ret ?_))
      exact st24.rsF (s := 0) 0 rfl rfl rfl (fun _ h => h) (bxr h23) flat_str
    ·
      refine wp_skip ?_
      refine blk_normal ?_
      refine then_normal ?_
      refine st17.sq (
        sc rfl (oM rfl (tp rfl)) <|
        sc rfl (oA rfl (tp rfl)) <| .nil) [2] rfl [(0, 0)] rfl ⟨fun _ h => h, trivial⟩ (fun a25 w25 st25 => ?_)
      refine wp_ret ?_
      exact st25.rsF (s := 0) 0 rfl rfl rfl (fun _ h => h) (bxr h19) flat_str

def m_spec_anyPackage (x0 : Reader) : Option (Reader × Str) :=
(m_spec_reader_pick x0 (4 : Int)).bind fun v4 =>
if (cmpI .eql v4.2 (0 : Int)) = true then (some (v4.1, (⟨[]⟩ : Str)))
else ((m_spec_anyName v4.1).bind fun v12 =>
some (v12.1, v12.2))

theorem spec_anyPackage_w {x0 : Reader} {r : Reader × Str} (h : m_spec_anyPackage x0 = some r) : FnS Tryz.prog 80 (Ow.box (Ow.frz (α := Reader))) ⟨x0⟩ [] ⟨r.1⟩ (.frz (dt r.2)) := by
  unfold m_spec_anyPackage at h
  refine fnSB (fn := Tryz.f80) 0 1 Tryz.func80 rfl (of_decide_eq_true rfl) rfl (fun M G w0 b0 a0 st0 => ?_)
  refine st0.sq (
    sc rfl (oA rfl (opd_str (by decide))) <| .nil) [] rfl [(0, 0)] rfl ⟨fun _ h => h, trivial⟩ (fun a1 w1 st1 => ?_)
  refine wp_seq ?_
  refine wp_seq ?_
  refine wp_region_list ?_
  refine st1.seg 1 (
    sc rfl (oM rfl (tp rfl)) <| .nil) [] rfl [(0, 0), (3, 0)] rfl ⟨fun _ h => h, ⟨fun _ h => h, trivial⟩⟩ (fun a2 w2 st2 => ?_)
  obtain ⟨v4, p4, h5⟩ := bs h
  refine st2.cSF (l := [.const (.int .i64 4)]) 0 (st2.bkN (s := 0) rfl (fun _ h => h)) rfl rfl kN116 ((st2.st.has 3 _ rfl).1.trans (st2.st.has 0 _ rfl).1.symm) (by simp) (.cons cI .nil) (spec_reader_pick_w p4) [] rfl [] rfl rfl (by decide) (fun G3 M3 a3 w3 st3 => ?_)
  refine st3.seg 1 (
    sc rfl (oCI rfl (tp rfl) cI) <| .nil) [5] rfl [(0, 0)] rfl ⟨fun _ h => h, trivial⟩ (fun a6 w6 st6 => ?_)
  refine wpList_nil ?_
  refine then_normal ?_
  refine st6.cs (c := 5) rfl h5 (fun c7 h7 => ?_) (fun c8 h8 => ?_)
  ·
    refine st6.sq (
      sc rfl (oA rfl (opd_str (by decide))) <| .nil) [2] rfl [(0, 0)] rfl ⟨fun _ h => h, trivial⟩ (fun a9 w9 st9 => ?_)
    refine wp_ret (thn_ret ?_)
    exact st9.rsF (s := 0) 0 rfl rfl rfl (fun _ h => h) (bxr h7) flat_str
  ·
    refine wp_skip ?_
    refine then_normal ?_
    refine wp_seq ?_
    refine wp_region_list ?_
    refine st6.seg 1 (
      sc rfl (oM rfl (tp rfl)) <| .nil) [] rfl [(0, 0), (6, 0)] rfl ⟨fun _ h => h, ⟨fun _ h => h, trivial⟩⟩ (fun a10 w10 st10 => ?_)
    obtain ⟨v12, p12, h13⟩ := bs h8
    refine st10.cSF (l := []) 0 (st10.bkN (s := 0) rfl (fun _ h => h)) rfl rfl kN127 ((st10.st.has 6 _ rfl).1.trans (st10.st.has 0 _ rfl).1.symm) (by simp) .nil (spec_anyName_w p12) [] rfl [] rfl rfl (by decide) (fun G11 M11 a11 w11 st11 => ?_)
    refine st11.seg 1 (
      sc rfl (oA rfl (tp rfl)) <| .nil) [2] rfl [(0, 0)] rfl ⟨fun _ h => h, trivial⟩ (fun a14 w14 st14 => ?_)
    refine wpList_nil ?_
    refine then_normal ?_
    refine wp_ret ?_
    exact st14.rsF (s := 0) 0 rfl rfl rfl (fun _ h => h) (bxr h13) flat_str

def m_spec_someStmt (x0 : Reader) : Option (Reader × Stmt) :=
(m_spec_reader_pick x0 (9 : Int)).bind fun v5 =>
Option.bind (α := Bool) (if (cmpI .eql v5.2 (0 : Int)) = true then (some (cmpI .eql v5.2 (0 : Int)))
else (some (cmpI .eql v5.2 (1 : Int)))) fun o7 =>
if o7 = true then ((m_spec_aName v5.1).bind fun v17 =>
some (v17.1, (⟨(0 : Int), v17.2, 0, ⟨[]⟩, 0⟩ : Stmt)))
else (if (cmpI .eql v5.2 (2 : Int)) = true then ((m_spec_reader_one v5.1 ([(0 : Int), (1 : Int), (2 : Int), (1 : Int)] : List Int)).bind fun v27 =>
(m_spec_aName v27.1).bind fun v32 =>
Option.bind (α := Reader × Str) ((gO (cmpI .gtr v27.2 (0 : Int) == true) (m_spec_reader_pick v32.1 (2 : Int))).bind fun v38 =>
if (cmpI .gtr v27.2 (0 : Int) && cmpI .eql v38.2 (0 : Int)) = true then (some ((if (cmpI .gtr v27.2 (0 : Int) == true) = true then v38.1 else v32.1), (⟨[]⟩ : Str)))
else (some ((if (cmpI .gtr v27.2 (0 : Int) == true) = true then v38.1 else v32.1), v32.2))) fun o35 =>
(m_spec_aPart o35.1).bind fun v47 =>
some (v47.1, (⟨(1 : Int), o35.2, v27.2, v47.2, 0⟩ : Stmt)))
else (if (cmpI .eql v5.2 (3 : Int)) = true then ((m_spec_aName v5.1).bind fun v57 =>
some (v57.1, (⟨(2 : Int), v57.2, 0, ⟨[]⟩, 0⟩ : Stmt)))
else (Option.bind (α := Bool) (if (cmpI .eql v5.2 (4 : Int)) = true then (some (cmpI .eql v5.2 (4 : Int)))
else (if (cmpI .eql v5.2 (5 : Int)) = true then (some (cmpI .eql v5.2 (5 : Int)))
else (some (cmpI .eql v5.2 (6 : Int))))) fun o62 =>
if o62 = true then ((m_spec_reader_of v5.1 ([(⟨[120]⟩ : Str), (⟨[121]⟩ : Str), (⟨[122]⟩ : Str), (⟨[97]⟩ : Str)] : List Str)).bind fun v75 =>
(m_spec_reader_pick v75.1 (100 : Int)).bind fun v79 =>
some (v79.1, (⟨(3 : Int), ⟨[]⟩, 0, v75.2, v79.2⟩ : Stmt)))
else (if (cmpI .eql v5.2 (7 : Int)) = true then ((m_spec_reader_of v5.1 ([(⟨[120]⟩ : Str), (⟨[121]⟩ : Str), (⟨[97]⟩ : Str), (⟨[98]⟩ : Str), (⟨[120]⟩ : Str)] : List Str)).bind fun v89 =>
some (v89.1, (⟨(4 : Int), ⟨[]⟩, 0, v89.2, 0⟩ : Stmt)))
else ((m_spec_reader_pick v5.1 (3 : Int)).bind fun v96 =>
if (cmpI .eql v96.2 (0 : Int)) = true then (some (v96.1, (⟨(5 : Int), ⟨[]⟩, 0, ⟨[]⟩, 0⟩ : Stmt)))
else ((m_spec_reader_pick v96.1 (100 : Int)).bind fun v106 =>
some (v106.1, (⟨(3 : Int), ⟨[]⟩, 0, (⟨[120]⟩ : Str), v106.2⟩ : Stmt))))))))

theorem spec_someStmt_w {x0 : Reader} {r : Reader × Stmt} (h : m_spec_someStmt x0 = some r) : FnS Tryz.prog 210 (Ow.box (Ow.frz (α := Reader))) ⟨x0⟩ [] ⟨r.1⟩ (.frz (dt r.2)) := by
  unfold m_spec_someStmt at h
  refine fnSB (fn := Tryz.f210) 0 2 Tryz.func210 rfl (of_decide_eq_true rfl) rfl (fun M G w0 b0 a0 st0 => ?_)
  refine wp_seq ?_
  refine wp_region_list ?_
  refine st0.alloc 1 rfl rfl kZ140 zrStmt (by simp) [] rfl [0] rfl rfl (fun b2 M2 a2 w2 st2 => ?_)
  refine wpList_nil ?_
  refine then_normal ?_
  refine wp_seq ?_
  refine wp_seq ?_
  refine wp_region_list ?_
  refine st2.seg 1 (
    sc rfl (oM rfl (tp rfl)) <| .nil) [] rfl [(0, 0), (2, 1), (5, 0)] rfl ⟨fun _ h => h, ⟨fun _ h => h, ⟨fun _ h => h, trivial⟩⟩⟩ (fun a3 w3 st3 => ?_)
  obtain ⟨v5, p5, h6⟩ := bs h
  refine st3.cSF (l := [.const (.int .i64 9)]) 0 (st3.bkN (s := 0) rfl (fun _ h => h)) rfl rfl kN116 ((st3.st.has 5 _ rfl).1.trans (st3.st.has 0 _ rfl).1.symm) (by simp) (.cons cI .nil) (spec_reader_pick_w p5) [] rfl [2] rfl rfl (by decide) (fun G4 M4 a4 w4 st4 => ?_)
  refine wpList_nil ?_
  refine then_normal ?_
  refine wp_block ?_
  obtain ⟨o7, p7, k7⟩ := bs h6
  refine wp_seq_join (fun a w => ∃ M1 q7_0 q7_1, Sx (Frm.chg w0 G) 60 M M1 [q7_0, oneB q7_1] [(6, dt v5.2), (7, dt o7)] [(2, 1, dbox q7_1 0 zStmt), (0, 0, dnm (Ow.box (Ow.frz (α := Reader))) q7_0 ⟨v5.1⟩ (.pointer (some ⟨b0, 0, none⟩)) [])] a w) ?_ ?_
  ·
    refine st4.sq (
      sc rfl (oCI rfl (tp rfl) cI) <|
      sc rfl (oA rfl (tp rfl)) <| .nil) [6, 7] rfl [(0, 0), (2, 1)] rfl ⟨fun _ h => h, ⟨fun _ h => h, trivial⟩⟩ (fun a8 w8 st8 => ?_)
    refine st8.cs (c := 7) rfl p7 (fun c9 h9 => ?_) (fun c10 h10 => ?_)
    ·
      refine wp_skip ?_
      refine then_normal ?_
      obtain rfl := Option.some.inj h9
      exact ⟨_, _, _, st8.sel [6, 7] rfl [(2, 1), (0, 0)] rfl ⟨fun _ h => h, ⟨fun _ h => h, trivial⟩⟩⟩
    ·
      refine st8.rg (
        sc rfl (oCI rfl (tp rfl) cI) <|
        sc rfl (oA rfl (tp rfl)) <| .nil) [6, 7] rfl [(0, 0), (2, 1)] rfl ⟨fun _ h => h, ⟨fun _ h => h, trivial⟩⟩ (fun a11 w11 st11 => ?_)
      refine then_normal ?_
      obtain rfl := Option.some.inj h10
      exact ⟨_, _, _, st11.sel [6, 7] rfl [(2, 1), (0, 0)] rfl ⟨fun _ h => h, ⟨fun _ h => h, trivial⟩⟩⟩
  · rintro a7 w7 ⟨M7, q7_0, q7_1, st7⟩
    have h12 := k7
    refine st7.cs (c := 7) rfl h12 (fun c13 h13 => ?_) (fun c14 h14 => ?_)
    ·
      refine wp_seq ?_
      refine wp_region_list ?_
      refine st7.seg 1 (
        sc rfl (oM rfl (tp rfl)) <| .nil) [] rfl [(0, 0), (2, 1), (10, 0)] rfl ⟨fun _ h => h, ⟨fun _ h => h, ⟨fun _ h => h, trivial⟩⟩⟩ (fun a15 w15 st15 => ?_)
      obtain ⟨v17, p17, h18⟩ := bs h13
      refine st15.cSF (l := []) 0 (st15.bkN (s := 0) rfl (fun _ h => h)) rfl rfl kN156 ((st15.st.has 10 _ rfl).1.trans (st15.st.has 0 _ rfl).1.symm) (by simp) .nil (spec_aName_w p17) [] rfl [2] rfl rfl (by decide) (fun G16 M16 a16 w16 st16 => ?_)
      refine st16.seg 1 (
        sc rfl (op_build (parts := [(0, .const (.int .i64 0)), (1, .tmp 11)]) (ns := [1, 1, 1, 1, 1]) (zs := zpStmt) rfl rfl kB140 kC140 (fun w a hl => by
 intro p hp; simp only [List.mem_cons, List.not_mem_nil, or_false] at hp
 rcases hp with rfl | rfl
 · exact ⟨by decide, rfl⟩
 · exact ⟨by decide, Rep.len (α := Str) (OpdR.cells (tp rfl) hl)⟩) (fun w a hl => Stmt.parts (x := (⟨(0 : Int), v17.2, 0, ⟨[]⟩, 0⟩ : Stmt)) (OpdR.cells cI hl) (OpdR.cells (tp rfl) hl) ⟨rfl, trivial⟩ zero_str ⟨rfl, trivial⟩)) <| .nil) [12] rfl [(0, 0), (2, 1)] rfl ⟨fun _ h => h, ⟨fun _ h => h, trivial⟩⟩ (fun a19 w19 st19 => ?_)
      refine st19.store (sb := 2) 1 FldS.id rfl rfl rfl kT140 rfl rfl (tp rfl) rfl [] rfl [0] rfl rfl (fun M21 w21 st21 => ?_)
      refine wpList_nil ?_
      refine then_normal ?_
      refine wp_ret (blk_ret (thn_ret ?_))
      exact st21.rsC (s := 0) 0 rfl kT140 rfl rfl (fun _ h => h) (bxr h18)
    ·
      refine st7.sq (
        sc rfl (oCI rfl (tp rfl) cI) <|
        sc rfl (oA rfl (tp rfl)) <| .nil) [6, 13] rfl [(0, 0), (2, 1)] rfl ⟨fun _ h => h, ⟨fun _ h => h, trivial⟩⟩ (fun a22 w22 st22 => ?_)
      refine st22.cs (c := 13) rfl h14 (fun c23 h23 => ?_) (fun c24 h24 => ?_)
      ·
        refine wp_seq ?_
        refine wp_region_list ?_
        refine st22.seg 2 (
          sc rfl (oM rfl (tp rfl)) <|
          sc rfl (op_lit (opds := [.const (.int .i64 0), .const (.int .i64 1), .const (.int .i64 2), .const (.int .i64 1)]) rfl kS25 kY25 rfl rfl (by decide) (.cons cI (.cons cI (.cons cI (.cons cI .nil))))) <| .nil) [16] rfl [(0, 0), (2, 1), (15, 0)] rfl ⟨fun _ h => h, ⟨fun _ h => h, ⟨fun _ h => h, trivial⟩⟩⟩ (fun a25 w25 st25 => ?_)
        obtain ⟨v27, p27, h28⟩ := bs h23
        refine st25.cSF (l := [.tmp 16]) 0 (st25.bkN (s := 0) rfl (fun _ h => h)) rfl rfl kN117 ((st25.st.has 15 _ rfl).1.trans (st25.st.has 0 _ rfl).1.symm) (by simp) (.cons (tp rfl) .nil) (spec_reader_one_w p27) [] rfl [2] rfl rfl (by decide) (fun G26 M26 a26 w26 st26 => ?_)
        refine st26.seg 1 (
          sc rfl (oA rfl (tp rfl)) <| .nil) [3] rfl [(0, 0), (2, 1)] rfl ⟨fun _ h => h, ⟨fun _ h => h, trivial⟩⟩ (fun a29 w29 st29 => ?_)
        refine wpList_nil ?_
        refine then_normal ?_
        refine wp_seq ?_
        refine wp_region_list ?_
        refine st29.seg 1 (
          sc rfl (oM rfl (tp rfl)) <| .nil) [3] rfl [(0, 0), (2, 1), (18, 0)] rfl ⟨fun _ h => h, ⟨fun _ h => h, ⟨fun _ h => h, trivial⟩⟩⟩ (fun a30 w30 st30 => ?_)
        obtain ⟨v32, p32, h33⟩ := bs h28
        refine st30.cSF (l := []) 0 (st30.bkN (s := 0) rfl (fun _ h => h)) rfl rfl kN156 ((st30.st.has 18 _ rfl).1.trans (st30.st.has 0 _ rfl).1.symm) (by simp) .nil (spec_aName_w p32) [3] rfl [2] rfl rfl (by decide) (fun G31 M31 a31 w31 st31 => ?_)
        refine st31.seg 1 (
          sc rfl (oA rfl (tp rfl)) <| .nil) [3, 4] rfl [(0, 0), (2, 1)] rfl ⟨fun _ h => h, ⟨fun _ h => h, trivial⟩⟩ (fun a34 w34 st34 => ?_)
        refine wpList_nil ?_
        refine then_normal ?_
        obtain ⟨o35, p35, k35⟩ := bs h33
        refine wp_seq_join (fun a w => ∃ M1 q35_0 q35_1, Sx (Frm.chg w0 G) 60 M M1 [q35_0, oneB q35_1] [(3, dt v27.2), (4, dt o35.2)] [(2, 1, dbox q35_1 0 zStmt), (0, 0, dnm (Ow.box (Ow.frz (α := Reader))) q35_0 ⟨o35.1⟩ (.pointer (some ⟨b0, 0, none⟩)) [])] a w) ?_ ?_
        ·
          refine wp_seq ?_
          refine wp_region_list ?_
          refine st34.seg 4 (
            sc rfl (oM rfl (tp rfl)) <|
            sc rfl (oCI rfl (tp rfl) cI) <|
            sc rfl (oM rfl (tp rfl)) <|
            sg rfl rfl (fun hg => oM rfl (opd_nm rfl)) <| .nil) [3, 4, 22, 23] rfl [(0, 0), (2, 1)] rfl ⟨fun _ h => h, ⟨fun _ h => h, trivial⟩⟩ (fun a36 w36 st36 => ?_)
          obtain ⟨v38, p38, h39⟩ := bs p35
          refine st36.cSFgB (sb := 0) (l := [.const (.int .i64 2)]) 0 rfl (fun _ h => h) rfl rfl rfl kN116 (fun hg => (st36.st.has 23 _ rfl).1 hg) (by simp) (fun hg => (.cons cI .nil)) (fun hg => spec_reader_pick_w (gh hg p38)) [3, 4, 22] rfl [2] rfl rfl (by decide) (fun G37 M37 a37 w37 st37 => ?_)
          refine st37.seg 2 (
            sg rfl rfl (fun hg => oCI rfl (opd_g hg rfl) cI) <|
            sc rfl (op_and rfl (tp rfl) (opd_tmp rfl)) <| .nil) [3, 4, 26] rfl [(0, 0), (2, 1)] rfl ⟨fun _ h => h, ⟨fun _ h => h, trivial⟩⟩ (fun a40 w40 st40 => ?_)
          refine wpList_nil ?_
          refine then_normal ?_
          refine st40.cs (c := 26) rfl h39 (fun c41 h41 => ?_) (fun c42 h42 => ?_)
          ·
            refine st40.rg (
              sc rfl (oA rfl (opd_str (by decide))) <| .nil) [3, 4] rfl [(0, 0), (2, 1)] rfl ⟨fun _ h => h, ⟨fun _ h => h, trivial⟩⟩ (fun a43 w43 st43 => ?_)
            refine then_normal ?_
            obtain rfl := Option.some.inj h41
            exact ⟨_, _, _, st43.sel [3, 4] rfl [(2, 1), (0, 0)] rfl ⟨fun _ h => h, ⟨fun _ h => h, trivial⟩⟩⟩
          ·
            refine wp_skip ?_
            refine then_normal ?_
            obtain rfl := Option.some.inj h42
            exact ⟨_, _, _, st40.sel [3, 4] rfl [(2, 1), (0, 0)] rfl ⟨fun _ h => h, ⟨fun _ h => h, trivial⟩⟩⟩
        · rintro a35 w35 ⟨M35, q35_0, q35_1, st35⟩
          have h44 := k35
          refine wp_seq ?_
          refine wp_region_list ?_
          refine st35.seg 3 (
            sc rfl (oM rfl (tp rfl)) <|
            sc rfl (oM rfl (tp rfl)) <|
            sc rfl (oM rfl (tp rfl)) <| .nil) [27, 28] rfl [(0, 0), (2, 1), (29, 0)] rfl ⟨fun _ h => h, ⟨fun _ h => h, ⟨fun _ h => h, trivial⟩⟩⟩ (fun a45 w45 st45 => ?_)
          obtain ⟨v47, p47, h48⟩ := bs h44
          refine st45.cSF (l := []) 0 (st45.bkN (s := 0) rfl (fun _ h => h)) rfl rfl kN182 ((st45.st.has 29 _ rfl).1.trans (st45.st.has 0 _ rfl).1.symm) (by simp) .nil (spec_aPart_w p47) [27, 28] rfl [2] rfl rfl (by decide) (fun G46 M46 a46 w46 st46 => ?_)
          refine st46.seg 1 (
            sc rfl (op_build (parts := [(0, .const (.int .i64 1)), (1, .tmp 27), (2, .tmp 28), (3, .tmp 30)]) (ns := [1, 1, 1, 1, 1]) (zs := zpStmt) rfl rfl kB140 kC140 (fun w a hl => by
 intro p hp; simp only [List.mem_cons, List.not_mem_nil, or_false] at hp
 rcases hp with rfl | rfl | rfl | rfl
 · exact ⟨by decide, rfl⟩
 · exact ⟨by decide, Rep.len (α := Str) (OpdR.cells (tp rfl) hl)⟩
 · exact ⟨by decide, Rep.len (α := Int) (OpdR.cells (tp rfl) hl)⟩
 · exact ⟨by decide, Rep.len (α := Str) (OpdR.cells (tp rfl) hl)⟩) (fun w a hl => Stmt.parts (x := (⟨(1 : Int), o35.2, v27.2, v47.2, 0⟩ : Stmt)) (OpdR.cells cI hl) (OpdR.cells (tp rfl) hl) (OpdR.cells (tp rfl) hl) (OpdR.cells (tp rfl) hl) ⟨rfl, trivial⟩)) <| .nil) [31] rfl [(0, 0), (2, 1)] rfl ⟨fun _ h => h, ⟨fun _ h => h, trivial⟩⟩ (fun a49 w49 st49 => ?_)
          refine st49.store (sb := 2) 1 FldS.id rfl rfl rfl kT140 rfl rfl (tp rfl) rfl [] rfl [0] rfl rfl (fun M51 w51 st51 => ?_)
          refine wpList_nil ?_
          refine then_normal ?_
          refine wp_ret (blk_ret (thn_ret ?_))
          exact st51.rsC (s := 0) 0 rfl kT140 rfl rfl (fun _ h => h) (bxr h48)
      ·
        refine st22.sq (
          sc rfl (oCI rfl (tp rfl) cI) <|
          sc rfl (oA rfl (tp rfl)) <| .nil) [6, 32] rfl [(0, 0), (2, 1)] rfl ⟨fun _ h => h, ⟨fun _ h => h, trivial⟩⟩ (fun a52 w52 st52 => ?_)
        refine st52.cs (c := 32) rfl h24 (fun c53 h53 => ?_) (fun c54 h54 => ?_)
        ·
          refine wp_seq ?_
          refine wp_region_list ?_
          refine st52.seg 1 (
            sc rfl (oM rfl (tp rfl)) <| .nil) [] rfl [(0, 0), (2, 1), (34, 0)] rfl ⟨fun _ h => h, ⟨fun _ h => h, ⟨fun _ h => h, trivial⟩⟩⟩ (fun a55 w55 st55 => ?_)
          obtain ⟨v57, p57, h58⟩ := bs h53
          refine st55.cSF (l := []) 0 (st55.bkN (s := 0) rfl (fun _ h => h)) rfl rfl kN156 ((st55.st.has 34 _ rfl).1.trans (st55.st.has 0 _ rfl).1.symm) (by simp) .nil (spec_aName_w p57) [] rfl [2] rfl rfl (by decide) (fun G56 M56 a56 w56 st56 => ?_)
          refine st56.seg 1 (
            sc rfl (op_build (parts := [(0, .const (.int .i64 2)), (1, .tmp 35)]) (ns := [1, 1, 1, 1, 1]) (zs := zpStmt) rfl rfl kB140 kC140 (fun w a hl => by
 intro p hp; simp only [List.mem_cons, List.not_mem_nil, or_false] at hp
 rcases hp with rfl | rfl
 · exact ⟨by decide, rfl⟩
 · exact ⟨by decide, Rep.len (α := Str) (OpdR.cells (tp rfl) hl)⟩) (fun w a hl => Stmt.parts (x := (⟨(2 : Int), v57.2, 0, ⟨[]⟩, 0⟩ : Stmt)) (OpdR.cells cI hl) (OpdR.cells (tp rfl) hl) ⟨rfl, trivial⟩ zero_str ⟨rfl, trivial⟩)) <| .nil) [36] rfl [(0, 0), (2, 1)] rfl ⟨fun _ h => h, ⟨fun _ h => h, trivial⟩⟩ (fun a59 w59 st59 => ?_)
          refine st59.store (sb := 2) 1 FldS.id rfl rfl rfl kT140 rfl rfl (tp rfl) rfl [] rfl [0] rfl rfl (fun M61 w61 st61 => ?_)
          refine wpList_nil ?_
          refine then_normal ?_
          refine wp_ret (blk_ret (thn_ret ?_))
          exact st61.rsC (s := 0) 0 rfl kT140 rfl rfl (fun _ h => h) (bxr h58)
        ·
          obtain ⟨o62, p62, k62⟩ := bs h54
          refine wp_seq_join (fun a w => ∃ M1 q62_0 q62_1, Sx (Frm.chg w0 G) 60 M M1 [q62_0, oneB q62_1] [(6, dt v5.2), (37, dt o62)] [(2, 1, dbox q62_1 0 zStmt), (0, 0, dnm (Ow.box (Ow.frz (α := Reader))) q62_0 ⟨v5.1⟩ (.pointer (some ⟨b0, 0, none⟩)) [])] a w) ?_ ?_
          ·
            refine st52.sq (
              sc rfl (oCI rfl (tp rfl) cI) <|
              sc rfl (oA rfl (tp rfl)) <| .nil) [6, 37] rfl [(0, 0), (2, 1)] rfl ⟨fun _ h => h, ⟨fun _ h => h, trivial⟩⟩ (fun a63 w63 st63 => ?_)
            refine st63.cs (c := 37) rfl p62 (fun c64 h64 => ?_) (fun c65 h65 => ?_)
            ·
              refine wp_skip ?_
              refine then_normal ?_
              obtain rfl := Option.some.inj h64
              exact ⟨_, _, _, st63.sel [6, 37] rfl [(2, 1), (0, 0)] rfl ⟨fun _ h => h, ⟨fun _ h => h, trivial⟩⟩⟩
            ·
              refine st63.sq (
                sc rfl (oCI rfl (tp rfl) cI) <|
                sc rfl (oA rfl (tp rfl)) <| .nil) [6, 37] rfl [(0, 0), (2, 1)] rfl ⟨fun _ h => h, ⟨fun _ h => h, trivial⟩⟩ (fun a66 w66 st66 => ?_)
              refine st66.cs (c := 37) rfl h65 (fun c67 h67 => ?_) (fun c68 h68 => ?_)
              ·
                refine wp_skip ?_
                refine then_normal ?_
                obtain rfl := Option.some.inj h67
                exact ⟨_, _, _, st66.sel [6, 37] rfl [(2, 1), (0, 0)] rfl ⟨fun _ h => h, ⟨fun _ h => h, trivial⟩⟩⟩
              ·
                refine st66.rg (
                  sc rfl (oCI rfl (tp rfl) cI) <|
                  sc rfl (oA rfl (tp rfl)) <| .nil) [6, 37] rfl [(0, 0), (2, 1)] rfl ⟨fun _ h => h, ⟨fun _ h => h, trivial⟩⟩ (fun a69 w69 st69 => ?_)
                refine then_normal ?_
                obtain rfl := Option.some.inj h68
                exact ⟨_, _, _, st69.sel [6, 37] rfl [(2, 1), (0, 0)] rfl ⟨fun _ h => h, ⟨fun _ h => h, trivial⟩⟩⟩
          · rintro a62 w62 ⟨M62, q62_0, q62_1, st62⟩
            have h70 := k62
            refine st62.cs (c := 37) rfl h70 (fun c71 h71 => ?_) (fun c72 h72 => ?_)
            ·
              refine wp_seq ?_
              refine wp_region_list ?_
              refine st62.seg 2 (
                sc rfl (oM rfl (tp rfl)) <|
                sc rfl (op_lit (opds := [_, _, _, _]) rfl kS47 kY47 rfl rfl (by decide) (.cons (opd_str (by decide)) (.cons (opd_str (by decide)) (.cons (opd_str (by decide)) (.cons (opd_str (by decide)) .nil))))) <| .nil) [42] rfl [(0, 0), (2, 1), (41, 0)] rfl ⟨fun _ h => h, ⟨fun _ h => h, ⟨fun _ h => h, trivial⟩⟩⟩ (fun a73 w73 st73 => ?_)
              obtain ⟨v75, p75, h76⟩ := bs h71
              refine st73.cSF (l := [.tmp 42]) 0 (st73.bkN (s := 0) rfl (fun _ h => h)) rfl rfl kN165 ((st73.st.has 41 _ rfl).1.trans (st73.st.has 0 _ rfl).1.symm) (by simp) (.cons (tp rfl) .nil) (spec_reader_of_w p75) [] rfl [2] rfl rfl (by decide) (fun G74 M74 a74 w74 st74 => ?_)
              refine st74.seg 1 (
                sc rfl (oM rfl (tp rfl)) <| .nil) [43] rfl [(0, 0), (2, 1), (44, 0)] rfl ⟨fun _ h => h, ⟨fun _ h => h, ⟨fun _ h => h, trivial⟩⟩⟩ (fun a77 w77 st77 => ?_)
              obtain ⟨v79, p79, h80⟩ := bs h76
              refine st77.cSF (l := [.const (.int .i64 100)]) 0 (st77.bkN (s := 0) rfl (fun _ h => h)) rfl rfl kN116 ((st77.st.has 44 _ rfl).1.trans (st77.st.has 0 _ rfl).1.symm) (by simp) (.cons cI .nil) (spec_reader_pick_w p79) [43] rfl [2] rfl rfl (by decide) (fun G78 M78 a78 w78 st78 => ?_)
              refine st78.seg 1 (
                sc rfl (op_build (parts := [(0, .const (.int .i64 3)), (3, .tmp 43), (4, .tmp 45)]) (ns := [1, 1, 1, 1, 1]) (zs := zpStmt) rfl rfl kB140 kC140 (fun w a hl => by
 intro p hp; simp only [List.mem_cons, List.not_mem_nil, or_false] at hp
 rcases hp with rfl | rfl | rfl
 · exact ⟨by decide, rfl⟩
 · exact ⟨by decide, Rep.len (α := Str) (OpdR.cells (tp rfl) hl)⟩
 · exact ⟨by decide, Rep.len (α := Int) (OpdR.cells (tp rfl) hl)⟩) (fun w a hl => Stmt.parts (x := (⟨(3 : Int), ⟨[]⟩, 0, v75.2, v79.2⟩ : Stmt)) (OpdR.cells cI hl) zero_str ⟨rfl, trivial⟩ (OpdR.cells (tp rfl) hl) (OpdR.cells (tp rfl) hl))) <| .nil) [46] rfl [(0, 0), (2, 1)] rfl ⟨fun _ h => h, ⟨fun _ h => h, trivial⟩⟩ (fun a81 w81 st81 => ?_)
              refine st81.store (sb := 2) 1 FldS.id rfl rfl rfl kT140 rfl rfl (tp rfl) rfl [] rfl [0] rfl rfl (fun M83 w83 st83 => ?_)
              refine wpList_nil ?_
              refine then_normal ?_
              refine wp_ret (blk_ret (thn_ret ?_))
              exact st83.rsC (s := 0) 0 rfl kT140 rfl rfl (fun _ h => h) (bxr h80)
            ·
              refine st62.sq (
                sc rfl (oCI rfl (tp rfl) cI) <|
                sc rfl (oA rfl (tp rfl)) <| .nil) [47] rfl [(0, 0), (2, 1)] rfl ⟨fun _ h => h, ⟨fun _ h => h, trivial⟩⟩ (fun a84 w84 st84 => ?_)
              refine st84.cs (c := 47) rfl h72 (fun c85 h85 => ?_) (fun c86 h86 => ?_)
              ·
                refine wp_seq ?_
                refine wp_region_list ?_
                refine st84.seg 2 (
                  sc rfl (oM rfl (tp rfl)) <|
                  sc rfl (op_lit (opds := [_, _, _, _, _]) rfl kS47 kY47 rfl rfl (by decide) (.cons (opd_str (by decide)) (.cons (opd_str (by decide)) (.cons (opd_str (by decide)) (.cons (opd_str (by decide)) (.cons (opd_str (by decide)) .nil)))))) <| .nil) [50] rfl [(0, 0), (2, 1), (49, 0)] rfl ⟨fun _ h => h, ⟨fun _ h => h, ⟨fun _ h => h, trivial⟩⟩⟩ (fun a87 w87 st87 => ?_)
                obtain ⟨v89, p89, h90⟩ := bs h85
                refine st87.cSF (l := [.tmp 50]) 0 (st87.bkN (s := 0) rfl (fun _ h => h)) rfl rfl kN165 ((st87.st.has 49 _ rfl).1.trans (st87.st.has 0 _ rfl).1.symm) (by simp) (.cons (tp rfl) .nil) (spec_reader_of_w p89) [] rfl [2] rfl rfl (by decide) (fun G88 M88 a88 w88 st88 => ?_)
                refine st88.seg 1 (
                  sc rfl (op_build (parts := [(0, .const (.int .i64 4)), (3, .tmp 51)]) (ns := [1, 1, 1, 1, 1]) (zs := zpStmt) rfl rfl kB140 kC140 (fun w a hl => by
 intro p hp; simp only [List.mem_cons, List.not_mem_nil, or_false] at hp
 rcases hp with rfl | rfl
 · exact ⟨by decide, rfl⟩
 · exact ⟨by decide, Rep.len (α := Str) (OpdR.cells (tp rfl) hl)⟩) (fun w a hl => Stmt.parts (x := (⟨(4 : Int), ⟨[]⟩, 0, v89.2, 0⟩ : Stmt)) (OpdR.cells cI hl) zero_str ⟨rfl, trivial⟩ (OpdR.cells (tp rfl) hl) ⟨rfl, trivial⟩)) <| .nil) [52] rfl [(0, 0), (2, 1)] rfl ⟨fun _ h => h, ⟨fun _ h => h, trivial⟩⟩ (fun a91 w91 st91 => ?_)
                refine st91.store (sb := 2) 1 FldS.id rfl rfl rfl kT140 rfl rfl (tp rfl) rfl [] rfl [0] rfl rfl (fun M93 w93 st93 => ?_)
                refine wpList_nil ?_
                refine then_normal ?_
                refine wp_ret (blk_ret (thn_ret ?_))
                exact st93.rsC (s := 0) 0 rfl kT140 rfl rfl (fun _ h => h) (bxr h90)
              ·
                refine wp_skip ?_
                refine blk_normal ?_
                refine then_normal ?_
                refine wp_seq ?_
                refine wp_seq ?_
                refine wp_region_list ?_
                refine st84.seg 1 (
                  sc rfl (oM rfl (tp rfl)) <| .nil) [] rfl [(0, 0), (2, 1), (53, 0)] rfl ⟨fun _ h => h, ⟨fun _ h => h, ⟨fun _ h => h, trivial⟩⟩⟩ (fun a94 w94 st94 => ?_)
                obtain ⟨v96, p96, h97⟩ := bs h86
                refine st94.cSF (l := [.const (.int .i64 3)]) 0 (st94.bkN (s := 0) rfl (fun _ h => h)) rfl rfl kN116 ((st94.st.has 53 _ rfl).1.trans (st94.st.has 0 _ rfl).1.symm) (by simp) (.cons cI .nil) (spec_reader_pick_w p96) [] rfl [2] rfl rfl (by decide) (fun G95 M95 a95 w95 st95 => ?_)
                refine st95.seg 1 (
                  sc rfl (oCI rfl (tp rfl) cI) <| .nil) [55] rfl [(0, 0), (2, 1)] rfl ⟨fun _ h => h, ⟨fun _ h => h, trivial⟩⟩ (fun a98 w98 st98 => ?_)
                refine wpList_nil ?_
                refine then_normal ?_
                refine st98.cs (c := 55) rfl h97 (fun c99 h99 => ?_) (fun c100 h100 => ?_)
                ·
                  refine wp_seq ?_
                  refine wp_region_list ?_
                  refine st98.seg 1 (
                    sc rfl (op_build (parts := [(0, .const (.int .i64 5))]) (ns := [1, 1, 1, 1, 1]) (zs := zpStmt) rfl rfl kB140 kC140 (fun w a hl => by
 intro p hp; simp only [List.mem_cons, List.not_mem_nil, or_false] at hp
 rcases hp with rfl
 · exact ⟨by decide, rfl⟩) (fun w a hl => Stmt.parts (x := (⟨(5 : Int), ⟨[]⟩, 0, ⟨[]⟩, 0⟩ : Stmt)) (OpdR.cells cI hl) zero_str ⟨rfl, trivial⟩ zero_str ⟨rfl, trivial⟩)) <| .nil) [56] rfl [(0, 0), (2, 1)] rfl ⟨fun _ h => h, ⟨fun _ h => h, trivial⟩⟩ (fun a101 w101 st101 => ?_)
                  refine st101.store (sb := 2) 1 FldS.id rfl rfl rfl kT140 rfl rfl (tp rfl) rfl [] rfl [0] rfl rfl (fun M103 w103 st103 => ?_)
                  refine wpList_nil ?_
                  refine then_normal ?_
                  refine wp_ret (thn_ret ?_)
                  exact st103.rsC (s := 0) 0 rfl kT140 rfl rfl (fun _ h => h) (bxr h99)
                ·
                  refine wp_skip ?_
                  refine then_normal ?_
                  refine wp_seq ?_
                  refine wp_region_list ?_
                  refine st98.seg 1 (
                    sc rfl (oM rfl (tp rfl)) <| .nil) [] rfl [(0, 0), (2, 1), (57, 0)] rfl ⟨fun _ h => h, ⟨fun _ h => h, ⟨fun _ h => h, trivial⟩⟩⟩ (fun a104 w104 st104 => ?_)
                  obtain ⟨v106, p106, h107⟩ := bs h100
                  refine st104.cSF (l := [.const (.int .i64 100)]) 0 (st104.bkN (s := 0) rfl (fun _ h => h)) rfl rfl kN116 ((st104.st.has 57 _ rfl).1.trans (st104.st.has 0 _ rfl).1.symm) (by simp) (.cons cI .nil) (spec_reader_pick_w p106) [] rfl [2] rfl rfl (by decide) (fun G105 M105 a105 w105 st105 => ?_)
                  refine st105.seg 1 (
                    sc rfl (op_build (parts := [(0, .const (.int .i64 3)), (3, _), (4, .tmp 58)]) (ns := [1, 1, 1, 1, 1]) (zs := zpStmt) rfl rfl kB140 kC140 (fun w a hl => by
 intro p hp; simp only [List.mem_cons, List.not_mem_nil, or_false] at hp
 rcases hp with rfl | rfl | rfl
 · exact ⟨by decide, rfl⟩
 · exact ⟨by decide, rfl⟩
 · exact ⟨by decide, Rep.len (α := Int) (OpdR.cells (tp rfl) hl)⟩) (fun w a hl => Stmt.parts (x := (⟨(3 : Int), ⟨[]⟩, 0, (⟨[120]⟩ : Str), v106.2⟩ : Stmt)) (OpdR.cells cI hl) zero_str ⟨rfl, trivial⟩ (OpdR.cells (opd_str (by decide)) hl) (OpdR.cells (tp rfl) hl))) <| .nil) [59] rfl [(0, 0), (2, 1)] rfl ⟨fun _ h => h, ⟨fun _ h => h, trivial⟩⟩ (fun a108 w108 st108 => ?_)
                  refine st108.store (sb := 2) 1 FldS.id rfl rfl rfl kT140 rfl rfl (tp rfl) rfl [] rfl [0] rfl rfl (fun M110 w110 st110 => ?_)
                  refine wpList_nil ?_
                  refine then_normal ?_
                  refine wp_ret ?_
                  exact st110.rsC (s := 0) 0 rfl kT140 rfl rfl (fun _ h => h) (bxr h107)

end Go.Proofs.YtionokffhhiicaaGreatDoor

namespace Go.Proofs.YtionokffhhiicaaGreatDoor
open Go.RowKit
set_option maxRecDepth 10000

theorem kN210 : fnB Tryz.prog 210 = true := by kernel_rfl
theorem kY92 : zlB Tryz.prog 92 = true := by kernel_rfl
theorem kE92 : elB Tryz.prog 92 140 5 56 = true := by kernel_rfl
theorem kN185 : fnB Tryz.prog 185 = true := by kernel_rfl
theorem kZ30 : zeroCells Tryz.prog 30 = some zcTree := by kernel_rfl
theorem kB30 : bldB Tryz.prog 30 [1] = true := by kernel_rfl
theorem kC30 : zeroOf Tryz.prog 30 [1] = some zpTree := by kernel_rfl
theorem kN158 : fnB Tryz.prog 158 = true := by kernel_rfl
theorem kN100 : fnB Tryz.prog 100 = true := by kernel_rfl
theorem kI28 : sliB Tryz.prog 28 94 6 = true := by kernel_rfl
theorem kY28 : zlB Tryz.prog 28 = true := by kernel_rfl
theorem kE28 : elB Tryz.prog 28 94 6 80 = true := by kernel_rfl

def m_spec_someBody_s0 (v5 : Reader × Int) (s14 : Reader × (List Stmt) × Int) : Option ((Reader × (List Stmt) × Int) ⊕ (Reader × (List Stmt))) :=
if (cmpI .gtr s14.2.2 (0 : Int)) = true then ((m_spec_someStmt s14.1).bind fun v21 =>
Option.bind (α := Reader × Stmt) (if (cmpI .eql v5.2 (0 : Int) && ((cmpI .eql v21.2.kind (1 : Int) || cmpI .eql v21.2.kind (4 : Int)) || cmpI .eql v21.2.kind (5 : Int))) = true then ((m_spec_reader_pick v21.1 (100 : Int)).bind fun v33 =>
some (v33.1, (⟨(3 : Int), ⟨[]⟩, 0, (⟨[121]⟩ : Str), v33.2⟩ : Stmt)))
else (some (v21.1, v21.2))) fun o27 =>
(appO 56 s14.2.1 ([o27.2] : List Stmt)).bind fun v42 =>
(i64 (s14.2.2 - (1 : Int))).bind fun v45 =>
some (.inl (o27.1, v42, v45)))
else (some (.inr (s14.1, s14.2.1)))

def m_spec_someBody (x0 : Reader) : Option (Reader × (List Stmt)) :=
(m_spec_reader_pick x0 (2 : Int)).bind fun v5 =>
Option.bind (α := Reader × (List Stmt)) ((m_spec_reader_one v5.1 ([(2 : Int), (1 : Int), (3 : Int), (0 : Int), (4 : Int)] : List Int)).bind fun v11 =>
loopM (fun s14 => m_spec_someBody_s0 v5 s14) (v11.1, [], v11.2)) fun o8 =>
some (o8.1, o8.2)

theorem spec_someBody_w {x0 : Reader} {r : Reader × (List Stmt)} (h : m_spec_someBody x0 = some r) : FnS Tryz.prog 185 (Ow.box (Ow.frz (α := Reader))) ⟨x0⟩ [] ⟨r.1⟩ (.ow (Ow.row 140 (Ow.frz (α := Stmt))) r.2) := by
  unfold m_spec_someBody at h
  refine fnSB (fn := Tryz.f185) 1 3 Tryz.func185 rfl (of_decide_eq_true rfl) rfl (fun M G w0 b0 a0 st0 => ?_)
  refine st0.sq (
    sc rfl (oA rfl (opd_nilTip (α := Stmt) (e := 140))) <| .nil) [] rfl [(0, 1)] rfl ⟨fun _ h => h, trivial⟩ (fun a1 w1 st1 => ?_)
  refine st1.sq (
    sc rfl (op_lit0 (α := Stmt) (e := 140) rfl kS92) <|
    sc rfl (oA rfl (tp rfl)) <| .nil) [] rfl [(0, 1), (3, 0)] rfl ⟨fun _ h => h, ⟨fun _ h => (by cases h), trivial⟩⟩ (fun a2 w2 st2 => ?_)
  refine wp_seq ?_
  refine wp_region_list ?_
  refine st2.seg 1 (
    sc rfl (oM rfl (tp rfl)) <| .nil) [] rfl [(0, 1), (3, 0), (8, 1)] rfl ⟨fun _ h => h, ⟨fun _ h => (by cases h), ⟨fun _ h => h, trivial⟩⟩⟩ (fun a3 w3 st3 => ?_)
  obtain ⟨v5, p5, h6⟩ := bs h
  refine st3.cSF (l := [.const (.int .i64 2)]) 1 (st3.bkN (s := 0) rfl (fun _ h => h)) rfl rfl kN116 ((st3.st.has 8 _ rfl).1.trans (st3.st.has 0 _ rfl).1.symm) (by simp) (.cons cI .nil) (spec_reader_pick_w p5) [] rfl [3] rfl rfl (by decide) (fun G4 M4 a4 w4 st4 => ?_)
  refine st4.seg 2 (
    sc rfl (oCI rfl (tp rfl) cI) <|
    sc rfl (oA rfl (tp rfl)) <| .nil) [4] rfl [(0, 1), (3, 0)] rfl ⟨fun _ h => h, ⟨fun _ h => (by cases h), trivial⟩⟩ (fun a7 w7 st7 => ?_)
  refine wpList_nil ?_
  refine then_normal ?_
  obtain ⟨o8, p8, k8⟩ := bs h6
  refine wp_seq_join (fun a w => ∃ M1 q8_0 q8_1 q8_2, Sx (Frm.chg w0 G) 44 M M1 [oneB q8_0, q8_1, oneB q8_2] [] [(3, 0, dtip q8_0 140 o8.2), (0, 1, dnm (Ow.box (Ow.frz (α := Reader))) q8_1 ⟨o8.1⟩ (.pointer (some ⟨b0, 0, none⟩)) [])] a w) ?_ ?_
  ·
    refine wp_seq ?_
    refine wp_region_list ?_
    refine st7.seg 2 (
      sc rfl (oM rfl (tp rfl)) <|
      sc rfl (op_lit (opds := [.const (.int .i64 2), .const (.int .i64 1), .const (.int .i64 3), .const (.int .i64 0), .const (.int .i64 4)]) rfl kS25 kY25 rfl rfl (by decide) (.cons cI (.cons cI (.cons cI (.cons cI (.cons cI .nil)))))) <| .nil) [4, 12] rfl [(0, 1), (3, 0), (11, 1)] rfl ⟨fun _ h => h, ⟨fun _ h => (by cases h), ⟨fun _ h => h, trivial⟩⟩⟩ (fun a9 w9 st9 => ?_)
    obtain ⟨v11, p11, h12⟩ := bs p8
    refine st9.cSF (l := [.tmp 12]) 1 (st9.bkN (s := 0) rfl (fun _ h => h)) rfl rfl kN117 ((st9.st.has 11 _ rfl).1.trans (st9.st.has 0 _ rfl).1.symm) (by simp) (.cons (tp rfl) .nil) (spec_reader_one_w p11) [4] rfl [3] rfl rfl (by decide) (fun G10 M10 a10 w10 st10 => ?_)
    refine st10.seg 1 (
      sc rfl (oA rfl (tp rfl)) <| .nil) [4, 5] rfl [(0, 1), (3, 0)] rfl ⟨fun _ h => h, ⟨fun _ h => (by cases h), trivial⟩⟩ (fun a13 w13 st13 => ?_)
    refine wpList_nil ?_
    refine then_normal ?_
    refine wp_block ?_
    refine loop_model h12 (fun s14 a w => ∃ M1 q14_0 q14_1 q14_2, Sx (Frm.chg w0 G) 44 M M1 [oneB q14_0, q14_1, oneB q14_2] [(4, dt (cmpI .eql v5.2 (0 : Int))), (5, dt s14.2.2)] [(3, 0, dtip q14_0 140 s14.2.1), (0, 1, dnm (Ow.box (Ow.frz (α := Reader))) q14_1 ⟨s14.1⟩ (.pointer (some ⟨b0, 0, none⟩)) [])] a w) ⟨_, _, _, _, st13.sel [4, 5] rfl [(3, 0), (0, 1)] rfl ⟨fun _ h => (by cases h), ⟨fun _ h => h, trivial⟩⟩⟩ ?_
    rintro s14 x14 a14 w14 ⟨M14, q14_0, q14_1, q14_2, st14⟩ hs14 hx14
    have h15 : m_spec_someBody_s0 v5 s14 = some x14 := hs14
    unfold m_spec_someBody_s0 at h15
    refine wp_seq ?_
    refine st14.sq (
        sc rfl (oM rfl (tp rfl)) <|
        sc rfl (oCI rfl (tp rfl) cI) <| .nil) [4, 5, 15] rfl [(0, 1), (3, 0)] rfl ⟨fun _ h => h, ⟨fun _ h => h, trivial⟩⟩ (fun a16 w16 st16 => ?_)
    refine st16.cs (c := 15) rfl h15 (fun c17 h17 => ?_) (fun c18 h18 => ?_)
    ·
      refine wp_skip ?_
      refine then_normal ?_
      refine wp_seq ?_
      refine wp_block ?_
      refine wp_seq ?_
      refine wp_region_list ?_
      refine st16.seg 1 (
          sc rfl (oM rfl (tp rfl)) <| .nil) [4, 5] rfl [(0, 1), (3, 0), (18, 1)] rfl ⟨fun _ h => h, ⟨fun _ h => h, ⟨fun _ h => h, trivial⟩⟩⟩ (fun a19 w19 st19 => ?_)
      obtain ⟨v21, p21, h22⟩ := bs h17
      refine st19.cSF (l := []) 1 (st19.bkN (s := 0) rfl (fun _ h => h)) rfl rfl kN210 ((st19.st.has 18 _ rfl).1.trans (st19.st.has 0 _ rfl).1.symm) (by simp) .nil (spec_someStmt_w p21) [4, 5] rfl [3] rfl rfl (by decide) (fun G20 M20 a20 w20 st20 => ?_)
      refine st20.alloc 2 rfl rfl kZ140 zrStmt (by simp) [4, 5, 19] rfl [0, 3] rfl rfl (fun b24 M24 a24 w24 st24 => ?_)
      refine st24.store (sb := 6) 2 FldS.id rfl rfl rfl kT140 rfl rfl (tp rfl) rfl [4, 5] rfl [0, 3] rfl rfl (fun M26 w26 st26 => ?_)
      refine wpList_nil ?_
      refine then_normal ?_
      obtain ⟨o27, p27, k27⟩ := bs h22
      refine wp_seq_join (fun a w => ∃ M1 q27_0 q27_1 q27_2, Sx (Frm.chg w0 G) 44 M M1 [oneB q27_0, q27_1, oneB q27_2] [(4, dt (cmpI .eql v5.2 (0 : Int))), (5, dt s14.2.2)] [(3, 0, dtip q27_0 140 s14.2.1), (6, 2, dbox q27_2 0 o27.2), (0, 1, dnm (Ow.box (Ow.frz (α := Reader))) q27_1 ⟨o27.1⟩ (.pointer (some ⟨b0, 0, none⟩)) [])] a w) ?_ ?_
      ·
        refine st26.sq (
            sc rfl (oM rfl (tp rfl)) <|
            sc rfl (oM rfl (tp rfl)) <|
            sg rfl rfl (fun hg => op_fieldBox Stmt.fld0 rfl kF140_0 (tp rfl)) <|
            sg rfl rfl (fun hg => op_loadBox rfl kT3 (opd_g hg rfl)) <|
            sg rfl rfl (fun hg => oCI rfl (opd_g hg rfl) cI) <|
            sg rfl rfl (fun hg => oM rfl (opd_g hg rfl)) <|
            sgg rfl rfl (fun hg => op_fieldBox Stmt.fld0 rfl kF140_0 (tp rfl)) <|
            sgg rfl rfl (fun hg => op_loadBox rfl kT3 (opd_g hg rfl)) <|
            sgg rfl rfl (fun hg => oCI rfl (opd_g hg rfl) cI) <|
            sg rfl rfl (fun hg => op_or rfl (opd_g hg rfl) (opd_gg hg rfl)) <|
            sg rfl rfl (fun hg => oM rfl (opd_g hg rfl)) <|
            sgg rfl rfl (fun hg => op_fieldBox Stmt.fld0 rfl kF140_0 (tp rfl)) <|
            sgg rfl rfl (fun hg => op_loadBox rfl kT3 (opd_g hg rfl)) <|
            sgg rfl rfl (fun hg => oCI rfl (opd_g hg rfl) cI) <|
            sg rfl rfl (fun hg => op_or rfl (opd_g hg rfl) (opd_gg hg rfl)) <|
            sc rfl (op_and rfl (tp rfl) (opd_tmp rfl)) <| .nil) [4, 5, 35] rfl [(0, 1), (3, 0), (6, 2)] rfl ⟨fun _ h => h, ⟨fun _ h => h, ⟨fun _ h => h, trivial⟩⟩⟩ (fun a28 w28 st28 => ?_)
        refine st28.cs (c := 35) rfl p27 (fun c29 h29 => ?_) (fun c30 h30 => ?_)
        ·
          refine wp_region_list ?_
          refine st28.seg 1 (
              sc rfl (oM rfl (tp rfl)) <| .nil) [4, 5] rfl [(0, 1), (3, 0), (6, 2), (36, 1)] rfl ⟨fun _ h => h, ⟨fun _ h => h, ⟨fun _ h => h, ⟨fun _ h => h, trivial⟩⟩⟩⟩ (fun a31 w31 st31 => ?_)
          obtain ⟨v33, p33, h34⟩ := bs h29
          refine st31.cSF (l := [.const (.int .i64 100)]) 1 (st31.bkN (s := 0) rfl (fun _ h => h)) rfl rfl kN116 ((st31.st.has 36 _ rfl).1.trans (st31.st.has 0 _ rfl).1.symm) (by simp) (.cons cI .nil) (spec_reader_pick_w p33) [4, 5] rfl [3, 6] rfl rfl (by decide) (fun G32 M32 a32 w32 st32 => ?_)
          refine st32.seg 1 (
              sc rfl (op_build (parts := [(0, .const (.int .i64 3)), (3, _), (4, .tmp 37)]) (ns := [1, 1, 1, 1, 1]) (zs := zpStmt) rfl rfl kB140 kC140 (fun w a hl => by
 intro p hp; simp only [List.mem_cons, List.not_mem_nil, or_false] at hp
 rcases hp with rfl | rfl | rfl
 · exact ⟨by decide, rfl⟩
 · exact ⟨by decide, rfl⟩
 · exact ⟨by decide, Rep.len (α := Int) (OpdR.cells (tp rfl) hl)⟩) (fun w a hl => Stmt.parts (x := (⟨(3 : Int), ⟨[]⟩, 0, (⟨[121]⟩ : Str), v33.2⟩ : Stmt)) (OpdR.cells cI hl) zero_str ⟨rfl, trivial⟩ (OpdR.cells (opd_str (by decide)) hl) (OpdR.cells (tp rfl) hl))) <| .nil) [4, 5, 38] rfl [(0, 1), (3, 0), (6, 2)] rfl ⟨fun _ h => h, ⟨fun _ h => h, ⟨fun _ h => h, trivial⟩⟩⟩ (fun a35 w35 st35 => ?_)
          refine st35.store (sb := 6) 2 FldS.id rfl rfl rfl kT140 rfl rfl (tp rfl) rfl [4, 5] rfl [0, 3] rfl rfl (fun M37 w37 st37 => ?_)
          refine wpList_nil ?_
          refine then_normal ?_
          obtain rfl := Option.some.inj h34
          exact ⟨_, _, _, _, st37.sel [4, 5] rfl [(3, 0), (6, 2), (0, 1)] rfl ⟨fun _ h => h, ⟨fun _ h => h, ⟨fun _ h => h, trivial⟩⟩⟩⟩
        ·
          refine wp_skip ?_
          refine then_normal ?_
          obtain rfl := Option.some.inj h30
          exact ⟨_, _, _, _, st28.sel [4, 5] rfl [(3, 0), (6, 2), (0, 1)] rfl ⟨fun _ h => h, ⟨fun _ h => h, ⟨fun _ h => h, trivial⟩⟩⟩⟩
      · rintro a27 w27 ⟨M27, q27_0, q27_1, q27_2, st27⟩
        have h38 := k27
        refine wp_region_list ?_
        refine st27.seg 3 (
            sc rfl (oM rfl (tp rfl)) <|
            sc rfl (op_loadBox rfl kT140 (tp rfl)) <|
            sc rfl (op_lit (opds := [.tmp 40]) rfl kS92 kY92 rfl rfl (by decide) (.cons (tp rfl) .nil)) <| .nil) [4, 5, 41] rfl [(0, 1), (3, 0), (39, 0)] rfl ⟨fun _ h => h, ⟨fun _ h => h, ⟨fun _ h => h, trivial⟩⟩⟩ (fun a39 w39 st39 => ?_)
        obtain ⟨v42, p42, h43⟩ := bs h38
        refine st39.app 0 rfl rfl kE92 rfl rfl rfl row_dt p42 [4, 5] rfl [0] rfl rfl (fun g41 M41 a41 w41 st41 => ?_)
        refine st41.seg 1 (
            sc rfl (oA rfl (tp rfl)) <| .nil) [4, 5] rfl [(0, 1), (3, 0)] rfl ⟨fun _ h => h, ⟨fun _ h => h, trivial⟩⟩ (fun a44 w44 st44 => ?_)
        refine wpList_nil ?_
        refine blk_normal ?_
        refine then_normal ?_
        obtain ⟨v45, p45, h46⟩ := bs h43
        refine st44.rg (
            sc rfl (oM rfl (tp rfl)) <|
            sc rfl (xAr rfl (tp rfl) cI p45) <|
            sc rfl (oA rfl (tp rfl)) <| .nil) [4, 5] rfl [(0, 1), (3, 0)] rfl ⟨fun _ h => h, ⟨fun _ h => h, trivial⟩⟩ (fun a47 w47 st47 => ?_)
        refine then_normal ?_
        exact ⟨_, (Option.some.inj h46).symm, ⟨_, _, _, _, st47.sel [4, 5] rfl [(3, 0), (0, 1)] rfl ⟨fun _ h => h, ⟨fun _ h => h, trivial⟩⟩⟩⟩
    ·
      refine wp_exit (thn_exit (thn_exit (exit_here ?_)))
      refine then_normal ?_
      have h48 := lo h18 hx14
      obtain rfl := Option.some.inj h48
      exact ⟨_, _, _, _, st16.sel [] rfl [(3, 0), (0, 1)] rfl ⟨fun _ h => h, ⟨fun _ h => h, trivial⟩⟩⟩
  · rintro a8 w8 ⟨M8, q8_0, q8_1, q8_2, st8⟩
    have h49 := k8
    refine st8.sq (
      sc rfl (oM rfl (tp rfl)) <|
      sc rfl (oA rfl (tp rfl)) <| .nil) [] rfl [(0, 1), (2, 0)] rfl ⟨fun _ h => h, ⟨fun _ h => h, trivial⟩⟩ (fun a50 w50 st50 => ?_)
    refine wp_ret ?_
    have st51 := st50.tipW (s := 2) 0 rfl rfl (fun _ h => h) [0] rfl
    exact st51.rsO (s := 0) 1 0 rfl rfl rfl (fun _ h => h) (fun _ h => h) (by decide) (bxr h49)

def m_spec_somePath (x0 : Reader) : Option (Reader × (List Int)) :=
(m_spec_reader_pick x0 (8 : Int)).bind fun v4 =>
if (cmpI .eql v4.2 (0 : Int)) = true then (some (v4.1, ([(1 : Int), (0 : Int)] : List Int)))
else (if (cmpI .eql v4.2 (1 : Int)) = true then (some (v4.1, ([(2 : Int), (1 : Int), (0 : Int)] : List Int)))
else (if (cmpI .eql v4.2 (2 : Int)) = true then (some (v4.1, ([(0 : Int)] : List Int)))
else (if (cmpI .eql v4.2 (3 : Int)) = true then (some (v4.1, ([(1 : Int)] : List Int)))
else (if (cmpI .eql v4.2 (4 : Int)) = true then (some (v4.1, ([(0 : Int), (1 : Int)] : List Int)))
else (some (v4.1, ([(0 : Int), (1 : Int), (2 : Int)] : List Int)))))))

theorem spec_somePath_w {x0 : Reader} {r : Reader × (List Int)} (h : m_spec_somePath x0 = some r) : FnS Tryz.prog 126 (Ow.box (Ow.frz (α := Reader))) ⟨x0⟩ [] ⟨r.1⟩ (.frz (dt r.2)) := by
  unfold m_spec_somePath at h
  refine fnSB (fn := Tryz.f126) 0 1 Tryz.func126 rfl (of_decide_eq_true rfl) rfl (fun M G w0 b0 a0 st0 => ?_)
  refine st0.sq (
    sc rfl (oA rfl (opd_nil (α := Int))) <| .nil) [] rfl [(0, 0)] rfl ⟨fun _ h => h, trivial⟩ (fun a1 w1 st1 => ?_)
  refine wp_seq ?_
  refine wp_seq ?_
  refine wp_region_list ?_
  refine st1.seg 1 (
    sc rfl (oM rfl (tp rfl)) <| .nil) [] rfl [(0, 0), (3, 0)] rfl ⟨fun _ h => h, ⟨fun _ h => h, trivial⟩⟩ (fun a2 w2 st2 => ?_)
  obtain ⟨v4, p4, h5⟩ := bs h
  refine st2.cSF (l := [.const (.int .i64 8)]) 0 (st2.bkN (s := 0) rfl (fun _ h => h)) rfl rfl kN116 ((st2.st.has 3 _ rfl).1.trans (st2.st.has 0 _ rfl).1.symm) (by simp) (.cons cI .nil) (spec_reader_pick_w p4) [] rfl [] rfl rfl (by decide) (fun G3 M3 a3 w3 st3 => ?_)
  refine wpList_nil ?_
  refine then_normal ?_
  refine wp_block ?_
  refine st3.sq (
    sc rfl (oCI rfl (tp rfl) cI) <|
    sc rfl (oA rfl (tp rfl)) <| .nil) [4, 5] rfl [(0, 0)] rfl ⟨fun _ h => h, trivial⟩ (fun a6 w6 st6 => ?_)
  refine st6.cs (c := 5) rfl h5 (fun c7 h7 => ?_) (fun c8 h8 => ?_)
  ·
    refine st6.sq (
      sc rfl (op_lit (opds := [.const (.int .i64 1), .const (.int .i64 0)]) rfl kS25 kY25 rfl rfl (by decide) (.cons cI (.cons cI .nil))) <|
      sc rfl (oA rfl (tp rfl)) <| .nil) [2] rfl [(0, 0)] rfl ⟨fun _ h => h, trivial⟩ (fun a9 w9 st9 => ?_)
    refine wp_ret (blk_ret (thn_ret ?_))
    exact st9.rsD (s := 0) 0 rfl rfl rfl (fun _ h => h) (bxr h7)
  ·
    refine st6.sq (
      sc rfl (oCI rfl (tp rfl) cI) <|
      sc rfl (oA rfl (tp rfl)) <| .nil) [4, 8] rfl [(0, 0)] rfl ⟨fun _ h => h, trivial⟩ (fun a10 w10 st10 => ?_)
    refine st10.cs (c := 8) rfl h8 (fun c11 h11 => ?_) (fun c12 h12 => ?_)
    ·
      refine st10.sq (
        sc rfl (op_lit (opds := [.const (.int .i64 2), .const (.int .i64 1), .const (.int .i64 0)]) rfl kS25 kY25 rfl rfl (by decide) (.cons cI (.cons cI (.cons cI .nil)))) <|
        sc rfl (oA rfl (tp rfl)) <| .nil) [2] rfl [(0, 0)] rfl ⟨fun _ h => h, trivial⟩ (fun a13 w13 st13 => ?_)
      refine wp_ret (blk_ret (thn_ret ?_))
      exact st13.rsD (s := 0) 0 rfl rfl rfl (fun _ h => h) (bxr h11)
    ·
      refine st10.sq (
        sc rfl (oCI rfl (tp rfl) cI) <|
        sc rfl (oA rfl (tp rfl)) <| .nil) [4, 11] rfl [(0, 0)] rfl ⟨fun _ h => h, trivial⟩ (fun a14 w14 st14 => ?_)
      refine st14.cs (c := 11) rfl h12 (fun c15 h15 => ?_) (fun c16 h16 => ?_)
      ·
        refine st14.sq (
          sc rfl (op_lit (opds := [.const (.int .i64 0)]) rfl kS25 kY25 rfl rfl (by decide) (.cons cI .nil)) <|
          sc rfl (oA rfl (tp rfl)) <| .nil) [2] rfl [(0, 0)] rfl ⟨fun _ h => h, trivial⟩ (fun a17 w17 st17 => ?_)
        refine wp_ret (blk_ret (thn_ret ?_))
        exact st17.rsD (s := 0) 0 rfl rfl rfl (fun _ h => h) (bxr h15)
      ·
        refine st14.sq (
          sc rfl (oCI rfl (tp rfl) cI) <|
          sc rfl (oA rfl (tp rfl)) <| .nil) [4, 14] rfl [(0, 0)] rfl ⟨fun _ h => h, trivial⟩ (fun a18 w18 st18 => ?_)
        refine st18.cs (c := 14) rfl h16 (fun c19 h19 => ?_) (fun c20 h20 => ?_)
        ·
          refine st18.sq (
            sc rfl (op_lit (opds := [.const (.int .i64 1)]) rfl kS25 kY25 rfl rfl (by decide) (.cons cI .nil)) <|
            sc rfl (oA rfl (tp rfl)) <| .nil) [2] rfl [(0, 0)] rfl ⟨fun _ h => h, trivial⟩ (fun a21 w21 st21 => ?_)
          refine wp_ret (blk_ret (thn_ret ?_))
          exact st21.rsD (s := 0) 0 rfl rfl rfl (fun _ h => h) (bxr h19)
        ·
          refine st18.sq (
            sc rfl (oCI rfl (tp rfl) cI) <|
            sc rfl (oA rfl (tp rfl)) <| .nil) [17] rfl [(0, 0)] rfl ⟨fun _ h => h, trivial⟩ (fun a22 w22 st22 => ?_)
          refine st22.cs (c := 17) rfl h20 (fun c23 h23 => ?_) (fun c24 h24 => ?_)
          ·
            refine st22.sq (
              sc rfl (op_lit (opds := [.const (.int .i64 0), .const (.int .i64 1)]) rfl kS25 kY25 rfl rfl (by decide) (.cons cI (.cons cI .nil))) <|
              sc rfl (oA rfl (tp rfl)) <| .nil) [2] rfl [(0, 0)] rfl ⟨fun _ h => h, trivial⟩ (fun a25 w25 st25 => ?_)
            refine wp_ret (blk_ret (thn_ret ?_))
            exact st25.rsD (s := 0) 0 rfl rfl rfl (fun _ h => h) (bxr h23)
          ·
            refine wp_skip ?_
            refine blk_normal ?_
            refine then_normal ?_
            refine st22.sq (
              sc rfl (op_lit (opds := [.const (.int .i64 0), .const (.int .i64 1), .const (.int .i64 2)]) rfl kS25 kY25 rfl rfl (by decide) (.cons cI (.cons cI (.cons cI .nil)))) <|
              sc rfl (oA rfl (tp rfl)) <| .nil) [2] rfl [(0, 0)] rfl ⟨fun _ h => h, trivial⟩ (fun a26 w26 st26 => ?_)
            refine wp_ret ?_
            exact st26.rsD (s := 0) 0 rfl rfl rfl (fun _ h => h) (bxr h24)

def m_spec_someFile (x0 : Reader) : Option (Reader × File) :=
(m_spec_reader_one x0 ([(0 : Int), (0 : Int), (1 : Int), (2 : Int), (1 : Int)] : List Int)).bind fun v5 =>
(m_spec_reader_pick v5.1 (100 : Int)).bind fun v10 =>
(m_spec_someBody v10.1).bind fun v15 =>
Option.bind (α := Reader × File) ((m_spec_reader_pick v15.1 (6 : Int)).bind fun v27 =>
Option.bind (α := Bool) (if (cmpI .eql v27.2 (0 : Int)) = true then (some (cmpI .eql v27.2 (0 : Int)))
else (some (cmpI .eql v27.2 (1 : Int)))) fun o30 =>
if o30 = true then ((m_spec_aPart v27.1).bind fun v44 =>
some (v44.1, { (⟨v5.2, ⟨[]⟩, ⟨[]⟩, false, v10.2, v15.2⟩ : File) with name := v44.2 }))
else (Option.bind (α := Bool) (if (cmpI .eql v27.2 (2 : Int)) = true then (some (cmpI .eql v27.2 (2 : Int)))
else (some (cmpI .eql v27.2 (3 : Int)))) fun o51 =>
if o51 = true then ((m_spec_aPart v27.1).bind fun v61 =>
(m_spec_aPart v61.1).bind fun v69 =>
some (v69.1, { (⟨v5.2, ⟨[]⟩, ⟨[]⟩, false, v10.2, v15.2⟩ : File) with pkg := v61.2, name := v69.2 }))
else (if (cmpI .eql v27.2 (4 : Int)) = true then ((m_spec_aPart v27.1).bind fun v80 =>
some (v80.1, { (⟨v5.2, ⟨[]⟩, ⟨[]⟩, false, v10.2, v15.2⟩ : File) with pkg := v80.2, init := true }))
else ((m_spec_aPart v27.1).bind fun v91 =>
(catO v91.2 (⟨[46]⟩ : Str)).bind fun v94 =>
(m_spec_aPart v91.1).bind fun v98 =>
(catO v94 v98.2).bind fun v101 =>
(m_spec_reader_pick v98.1 (2 : Int)).bind fun v108 =>
if (cmpI .eql v108.2 (0 : Int)) = true then (some (v108.1, { (⟨v5.2, ⟨[]⟩, ⟨[]⟩, false, v10.2, v15.2⟩ : File) with pkg := v101, init := true }))
else ((m_spec_aPart v108.1).bind fun v119 =>
some (v119.1, { (⟨v5.2, ⟨[]⟩, ⟨[]⟩, false, v10.2, v15.2⟩ : File) with pkg := v101, name := v119.2 })))))) fun o24 =>
some (o24.1, o24.2)

theorem spec_someFile_w {x0 : Reader} {r : Reader × File} (h : m_spec_someFile x0 = some r) : FnS Tryz.prog 158 (Ow.box (Ow.frz (α := Reader))) ⟨x0⟩ [] ⟨r.1⟩ (.ow (owFile (Ow.row 140 (Ow.frz (α := Stmt)))) r.2) := by
  unfold m_spec_someFile at h
  refine fnSB (fn := Tryz.f158) 2 5 Tryz.func158 rfl (of_decide_eq_true rfl) rfl (fun M G w0 b0 a0 st0 => ?_)
  refine wp_seq ?_
  refine wp_region_list ?_
  refine st0.alcW (ow := (owFile (Ow.row 140 (Ow.frz (α := Stmt))))) 3 rfl rfl kZ94 (owFile.z Ow.row_z) (by simp) [] rfl [0] rfl rfl (fun b1 M1 a1 w1 st1 => ?_)
  have st2 := st1.gs (Gs' := [oneB none, oneB none, G, (oneB (some b1)), oneB none]) rfl
  refine wpList_nil ?_
  refine then_normal ?_
  refine wp_seq ?_
  refine wp_region_list ?_
  refine st2.seg 2 (
    sc rfl (oM rfl (tp rfl)) <|
    sc rfl (op_lit (opds := [.const (.int .i64 0), .const (.int .i64 0), .const (.int .i64 1), .const (.int .i64 2), .const (.int .i64 1)]) rfl kS25 kY25 rfl rfl (by decide) (.cons cI (.cons cI (.cons cI (.cons cI (.cons cI .nil)))))) <| .nil) [5] rfl [(0, 2), (2, 3), (4, 2)] rfl ⟨fun _ h => h, ⟨fun _ h => h, ⟨fun _ h => h, trivial⟩⟩⟩ (fun a3 w3 st3 => ?_)
  obtain ⟨v5, p5, h6⟩ := bs h
  refine st3.cSF (l := [.tmp 5]) 2 (st3.bkN (s := 0) rfl (fun _ h => h)) rfl rfl kN117 ((st3.st.has 4 _ rfl).1.trans (st3.st.has 0 _ rfl).1.symm) (by simp) (.cons (tp rfl) .nil) (spec_reader_one_w p5) [] rfl [2] rfl rfl (by decide) (fun G4 M4 a4 w4 st4 => ?_)
  have st7 := st4.gs (Gs' := [oneB none, oneB none, G4, (oneB (some b1)), oneB none]) rfl
  refine st7.seg 1 (
    sc rfl (oM rfl (tp rfl)) <| .nil) [6] rfl [(0, 2), (2, 3), (7, 2)] rfl ⟨fun _ h => h, ⟨fun _ h => h, ⟨fun _ h => h, trivial⟩⟩⟩ (fun a8 w8 st8 => ?_)
  obtain ⟨v10, p10, h11⟩ := bs h6
  refine st8.cSF (l := [.const (.int .i64 100)]) 2 (st8.bkN (s := 0) rfl (fun _ h => h)) rfl rfl kN116 ((st8.st.has 7 _ rfl).1.trans (st8.st.has 0 _ rfl).1.symm) (by simp) (.cons cI .nil) (spec_reader_pick_w p10) [6] rfl [2] rfl rfl (by decide) (fun G9 M9 a9 w9 st9 => ?_)
  have st12 := st9.gs (Gs' := [oneB none, oneB none, G9, (oneB (some b1)), oneB none]) rfl
  refine st12.seg 1 (
    sc rfl (oM rfl (tp rfl)) <| .nil) [6, 8] rfl [(0, 2), (2, 3), (9, 2)] rfl ⟨fun _ h => h, ⟨fun _ h => h, ⟨fun _ h => h, trivial⟩⟩⟩ (fun a13 w13 st13 => ?_)
  obtain ⟨v15, p15, h16⟩ := bs h11
  refine st13.cSO (l := []) 2 0 (st13.bkN (s := 0) rfl (fun _ h => h)) rfl rfl kN185 ((st13.st.has 9 _ rfl).1.trans (st13.st.has 0 _ rfl).1.symm) (by simp) (by simp) (by decide) .nil (spec_someBody_w p15) [6, 8] rfl [2] rfl rfl rfl rfl (by decide) (fun G14 H14 M14 a14 w14 st14 => ?_)
  have st17 := st14.gs (Gs' := [H14, oneB none, G14, (oneB (some b1)), oneB none]) rfl
  refine st17.bldW (ow := (owFile (Ow.row 140 (Ow.frz (α := Stmt))))) (parts := [(0, .tmp 6), (4, .tmp 8), (5, .tmp 10)]) (ns := [1, 1, 1, 1, 1, 1]) (zs := zpFile) (x := (⟨v5.2, ⟨[]⟩, ⟨[]⟩, false, v10.2, v15.2⟩ : File)) 1 [0] rfl rfl rfl kB94 kC94 (by
 intro p hp; simp only [List.mem_cons, List.not_mem_nil, or_false] at hp
 rcases hp with rfl | rfl | rfl
 · exact ⟨by decide, Rep.len (α := Int) (OpdR.cells (tp rfl) (fun s y hs => st17.st.has s y hs))⟩
 · exact ⟨by decide, Rep.len (α := Int) (OpdR.cells (tp rfl) (fun s y hs => st17.st.has s y hs))⟩
 · exact ⟨by decide, Ow.len _ (own_cells (st17.st.has 10 _ rfl))⟩) (((owFile (Ow.row 140 (Ow.frz (α := Stmt))))).more (owFile.mk (x := (⟨v5.2, ⟨[]⟩, ⟨[]⟩, false, v10.2, v15.2⟩ : File)) (OpdR.cells (tp rfl) (fun s y hs => st17.st.has s y hs)) zero_str zero_str ⟨rfl, trivial⟩ (OpdR.cells (tp rfl) (fun s y hs => st17.st.has s y hs)) (own_cells (st17.st.has 10 _ rfl))) (fun b => (fun hb => ⟨0, by simp, hb⟩))) (by simp) [] rfl [0, 2] rfl rfl rfl (fun G18 a18 w18 st18 => ?_)
  have st19 := st18.gs (Gs' := [oneB none, G18, G14, (oneB (some b1)), oneB none]) rfl
  refine st19.alcW (ow := (owFile (Ow.row 140 (Ow.frz (α := Stmt))))) 4 rfl rfl kZ94 (owFile.z Ow.row_z) (by simp) [] rfl [0, 2, 11] rfl rfl (fun b20 M20 a20 w20 st20 => ?_)
  have st21 := st20.gs (Gs' := [oneB none, G18, G14, (oneB (some b1)), (oneB (some b20))]) rfl
  refine st21.stO (sb := 3) (tv := 11) 4 1 (PV.root.box rfl) rfl rfl rfl kT94 (by simp) (by simp) (by decide) (opd_nm rfl) rfl rfl rfl (fun _ h => h) (fun _ h => h) [] rfl [0, 2] rfl rfl rfl (fun G22 w22 st22 => ?_)
  have st23 := st22.gs (Gs' := [oneB none, oneB none, G14, (oneB (some b1)), G22]) rfl
  refine wpList_nil ?_
  refine then_normal ?_
  obtain ⟨o24, p24, k24⟩ := bs h16
  refine wp_seq_join (fun a w => ∃ M1 q24_0 q24_1 q24_2 q24_3 q24_4, Sx (Frm.chg w0 G) 50 M M1 [q24_0, q24_1, q24_2, q24_3, q24_4] [] [(0, 2, dnm (Ow.box (Ow.frz (α := Reader))) q24_2 ⟨o24.1⟩ (.pointer (some ⟨b0, 0, none⟩)) []), (2, 3, dow (Ow.box (owFile (Ow.row 140 (Ow.frz (α := Stmt))))) q24_3 ⟨zFile⟩), (3, 4, dow (Ow.box (owFile (Ow.row 140 (Ow.frz (α := Stmt))))) q24_4 ⟨o24.2⟩)] a w) ?_ ?_
  ·
    refine wp_seq ?_
    refine wp_region_list ?_
    refine st23.seg 1 (
      sc rfl (oM rfl (tp rfl)) <| .nil) [] rfl [(0, 2), (2, 3), (3, 4), (12, 2)] rfl ⟨fun _ h => h, ⟨fun _ h => h, ⟨fun _ h => h, ⟨fun _ h => h, trivial⟩⟩⟩⟩ (fun a25 w25 st25 => ?_)
    obtain ⟨v27, p27, h28⟩ := bs p24
    refine st25.cSF (l := [.const (.int .i64 6)]) 2 (st25.bkN (s := 0) rfl (fun _ h => h)) rfl rfl kN116 ((st25.st.has 12 _ rfl).1.trans (st25.st.has 0 _ rfl).1.symm) (by simp) (.cons cI .nil) (spec_reader_pick_w p27) [] rfl [2, 3] rfl rfl (by decide) (fun G26 M26 a26 w26 st26 => ?_)
    have st29 := st26.gs (Gs' := [oneB none, oneB none, G26, (oneB (some b1)), G22]) rfl
    refine wpList_nil ?_
    refine then_normal ?_
    refine wp_block ?_
    obtain ⟨o30, p30, k30⟩ := bs h28
    refine wp_seq_join (fun a w => ∃ M1 q30_0 q30_1 q30_2 q30_3 q30_4, Sx (Frm.chg w0 G) 50 M M1 [q30_0, q30_1, q30_2, q30_3, q30_4] [(13, dt v27.2), (28, dt o30)] [(0, 2, dnm (Ow.box (Ow.frz (α := Reader))) q30_2 ⟨v27.1⟩ (.pointer (some ⟨b0, 0, none⟩)) []), (2, 3, dow (Ow.box (owFile (Ow.row 140 (Ow.frz (α := Stmt))))) q30_3 ⟨zFile⟩), (3, 4, dow (Ow.box (owFile (Ow.row 140 (Ow.frz (α := Stmt))))) q30_4 ⟨(⟨v5.2, ⟨[]⟩, ⟨[]⟩, false, v10.2, v15.2⟩ : File)⟩)] a w) ?_ ?_
    ·
      refine st29.sq (
        sc rfl (oCI rfl (tp rfl) cI) <|
        sc rfl (oA rfl (tp rfl)) <| .nil) [13, 28] rfl [(0, 2), (2, 3), (3, 4)] rfl ⟨fun _ h => h, ⟨fun _ h => h, ⟨fun _ h => h, trivial⟩⟩⟩ (fun a31 w31 st31 => ?_)
      refine st31.cs (c := 28) rfl p30 (fun c32 h32 => ?_) (fun c33 h33 => ?_)
      ·
        refine wp_skip ?_
        have st34 := st31.unm (s := 2) 3 rfl rfl (fun _ h => h) [0, 3] rfl
        have st35 := st34.unm (s := 3) 4 rfl rfl (fun _ h => h) [0, 2] rfl
        refine then_normal ?_
        obtain rfl := Option.some.inj h32
        exact ⟨_, _, _, _, _, _, st35.sel [13, 28] rfl [(0, 2), (2, 3), (3, 4)] rfl ⟨fun _ h => h, ⟨fun _ h => h, ⟨fun _ h => h, trivial⟩⟩⟩⟩
      ·
        refine st31.rg (
          sc rfl (oCI rfl (tp rfl) cI) <|
          sc rfl (oA rfl (tp rfl)) <| .nil) [13, 28] rfl [(0, 2), (2, 3), (3, 4)] rfl ⟨fun _ h => h, ⟨fun _ h => h, ⟨fun _ h => h, trivial⟩⟩⟩ (fun a36 w36 st36 => ?_)
        have st37 := st36.unm (s := 2) 3 rfl rfl (fun _ h => h) [0, 3] rfl
        have st38 := st37.unm (s := 3) 4 rfl rfl (fun _ h => h) [0, 2] rfl
        refine then_normal ?_
        obtain rfl := Option.some.inj h33
        exact ⟨_, _, _, _, _, _, st38.sel [13, 28] rfl [(0, 2), (2, 3), (3, 4)] rfl ⟨fun _ h => h, ⟨fun _ h => h, ⟨fun _ h => h, trivial⟩⟩⟩⟩
    · rintro a30 w30 ⟨M30, q30_0, q30_1, q30_2, q30_3, q30_4, st30⟩
      have h39 := k30
      refine st30.cs (c := 28) rfl h39 (fun c40 h40 => ?_) (fun c41 h41 => ?_)
      ·
        refine wp_region_list ?_
        refine st30.seg 1 (
          sc rfl (oM rfl (tp rfl)) <| .nil) [] rfl [(0, 2), (2, 3), (3, 4), (31, 2)] rfl ⟨fun _ h => h, ⟨fun _ h => h, ⟨fun _ h => h, ⟨fun _ h => h, trivial⟩⟩⟩⟩ (fun a42 w42 st42 => ?_)
        obtain ⟨v44, p44, h45⟩ := bs h40
        refine st42.cSF (l := []) 2 (st42.bkN (s := 0) rfl (fun _ h => h)) rfl rfl kN182 ((st42.st.has 31 _ rfl).1.trans (st42.st.has 0 _ rfl).1.symm) (by simp) .nil (spec_aPart_w p44) [] rfl [2, 3] rfl rfl (by decide) (fun G43 M43 a43 w43 st43 => ?_)
        have st46 := st43.gs (Gs' := [q30_0, q30_1, G43, q30_3, q30_4]) rfl
        refine st46.nmB (s := 3) 4 rfl rfl (fun _ h => h) [0, 2] rfl (fun b47 st47 => ?_)
        refine st47.seg 1 (
          sc rfl (xFa rfl kF94_2 (opd_nm rfl)) <| .nil) [32, 33] rfl [(0, 2), (2, 3), (3, 4)] rfl ⟨fun _ h => h, ⟨fun _ h => h, ⟨fun _ h => h, trivial⟩⟩⟩ (fun a48 w48 st48 => ?_)
        refine st48.stF (sb := 3) 4 ((PV.root.box rfl).fld owFile.f2) rfl rfl rfl kT9 (by simp) (tp rfl) (tp rfl) rfl rfl (fun _ h => h) [] rfl [0, 2] rfl rfl (fun w49 st49 => ?_)
        refine wpList_nil ?_
        refine blk_normal ?_
        have st50 := st49.unm (s := 3) 4 rfl rfl (fun _ h => h) [0, 2] rfl
        refine then_normal ?_
        obtain rfl := Option.some.inj h45
        exact ⟨_, _, _, _, _, _, st50.sel [] rfl [(0, 2), (2, 3), (3, 4)] rfl ⟨fun _ h => h, ⟨fun _ h => h, ⟨fun _ h => h, trivial⟩⟩⟩⟩
      ·
        obtain ⟨o51, p51, k51⟩ := bs h41
        refine wp_seq_join (fun a w => ∃ M1 q51_0 q51_1 q51_2 q51_3 q51_4, Sx (Frm.chg w0 G) 50 M M1 [q51_0, q51_1, q51_2, q51_3, q51_4] [(13, dt v27.2), (34, dt o51)] [(0, 2, dnm (Ow.box (Ow.frz (α := Reader))) q51_2 ⟨v27.1⟩ (.pointer (some ⟨b0, 0, none⟩)) []), (2, 3, dow (Ow.box (owFile (Ow.row 140 (Ow.frz (α := Stmt))))) q51_3 ⟨zFile⟩), (3, 4, dow (Ow.box (owFile (Ow.row 140 (Ow.frz (α := Stmt))))) q51_4 ⟨(⟨v5.2, ⟨[]⟩, ⟨[]⟩, false, v10.2, v15.2⟩ : File)⟩)] a w) ?_ ?_
        ·
          refine st30.sq (
            sc rfl (oCI rfl (tp rfl) cI) <|
            sc rfl (oA rfl (tp rfl)) <| .nil) [13, 34] rfl [(0, 2), (2, 3), (3, 4)] rfl ⟨fun _ h => h, ⟨fun _ h => h, ⟨fun _ h => h, trivial⟩⟩⟩ (fun a52 w52 st52 => ?_)
          refine st52.cs (c := 34) rfl p51 (fun c53 h53 => ?_) (fun c54 h54 => ?_)
          ·
            refine wp_skip ?_
            refine then_normal ?_
            obtain rfl := Option.some.inj h53
            exact ⟨_, _, _, _, _, _, st52.sel [13, 34] rfl [(0, 2), (2, 3), (3, 4)] rfl ⟨fun _ h => h, ⟨fun _ h => h, ⟨fun _ h => h, trivial⟩⟩⟩⟩
          ·
            refine st52.rg (
              sc rfl (oCI rfl (tp rfl) cI) <|
              sc rfl (oA rfl (tp rfl)) <| .nil) [13, 34] rfl [(0, 2), (2, 3), (3, 4)] rfl ⟨fun _ h => h, ⟨fun _ h => h, ⟨fun _ h => h, trivial⟩⟩⟩ (fun a55 w55 st55 => ?_)
            refine then_normal ?_
            obtain rfl := Option.some.inj h54
            exact ⟨_, _, _, _, _, _, st55.sel [13, 34] rfl [(0, 2), (2, 3), (3, 4)] rfl ⟨fun _ h => h, ⟨fun _ h => h, ⟨fun _ h => h, trivial⟩⟩⟩⟩
        · rintro a51 w51 ⟨M51, q51_0, q51_1, q51_2, q51_3, q51_4, st51⟩
          have h56 := k51
          refine st51.cs (c := 34) rfl h56 (fun c57 h57 => ?_) (fun c58 h58 => ?_)
          ·
            refine wp_seq ?_
            refine wp_region_list ?_
            refine st51.seg 1 (
              sc rfl (oM rfl (tp rfl)) <| .nil) [] rfl [(0, 2), (2, 3), (3, 4), (37, 2)] rfl ⟨fun _ h => h, ⟨fun _ h => h, ⟨fun _ h => h, ⟨fun _ h => h, trivial⟩⟩⟩⟩ (fun a59 w59 st59 => ?_)
            obtain ⟨v61, p61, h62⟩ := bs h57
            refine st59.cSF (l := []) 2 (st59.bkN (s := 0) rfl (fun _ h => h)) rfl rfl kN182 ((st59.st.has 37 _ rfl).1.trans (st59.st.has 0 _ rfl).1.symm) (by simp) .nil (spec_aPart_w p61) [] rfl [2, 3] rfl rfl (by decide) (fun G60 M60 a60 w60 st60 => ?_)
            have st63 := st60.gs (Gs' := [q51_0, q51_1, G60, q51_3, q51_4]) rfl
            refine st63.nmB (s := 3) 4 rfl rfl (fun _ h => h) [0, 2] rfl (fun b64 st64 => ?_)
            refine st64.seg 1 (
              sc rfl (xFa rfl kF94_1 (opd_nm rfl)) <| .nil) [38, 39] rfl [(0, 2), (2, 3), (3, 4)] rfl ⟨fun _ h => h, ⟨fun _ h => h, ⟨fun _ h => h, trivial⟩⟩⟩ (fun a65 w65 st65 => ?_)
            refine st65.stF (sb := 3) 4 ((PV.root.box rfl).fld owFile.f1) rfl rfl rfl kT9 (by simp) (tp rfl) (tp rfl) rfl rfl (fun _ h => h) [] rfl [0, 2] rfl rfl (fun w66 st66 => ?_)
            refine wpList_nil ?_
            refine then_normal ?_
            refine wp_region_list ?_
            refine st66.seg 1 (
              sc rfl (oM rfl (tp rfl)) <| .nil) [] rfl [(0, 2), (2, 3), (3, 4), (40, 2)] rfl ⟨fun _ h => h, ⟨fun _ h => h, ⟨fun _ h => h, ⟨fun _ h => h, trivial⟩⟩⟩⟩ (fun a67 w67 st67 => ?_)
            obtain ⟨v69, p69, h70⟩ := bs h62
            refine st67.cSF (l := []) 2 (st67.bkN (s := 0) rfl (fun _ h => h)) rfl rfl kN182 ((st67.st.has 40 _ rfl).1.trans (st67.st.has 0 _ rfl).1.symm) (by simp) .nil (spec_aPart_w p69) [] rfl [2, 3] rfl rfl (by decide) (fun G68 M68 a68 w68 st68 => ?_)
            have st71 := st68.gs (Gs' := [q51_0, q51_1, G68, q51_3, q51_4]) rfl
            refine st71.seg 1 (
              sc rfl (xFa rfl kF94_2 (opd_nm rfl)) <| .nil) [41, 42] rfl [(0, 2), (2, 3), (3, 4)] rfl ⟨fun _ h => h, ⟨fun _ h => h, ⟨fun _ h => h, trivial⟩⟩⟩ (fun a72 w72 st72 => ?_)
            refine st72.stF (sb := 3) 4 ((PV.root.box rfl).fld owFile.f2) rfl rfl rfl kT9 (by simp) (tp rfl) (tp rfl) rfl rfl (fun _ h => h) [] rfl [0, 2] rfl rfl (fun w73 st73 => ?_)
            refine wpList_nil ?_
            refine blk_normal ?_
            have st74 := st73.unm (s := 3) 4 rfl rfl (fun _ h => h) [0, 2] rfl
            refine then_normal ?_
            obtain rfl := Option.some.inj h70
            exact ⟨_, _, _, _, _, _, st74.sel [] rfl [(0, 2), (2, 3), (3, 4)] rfl ⟨fun _ h => h, ⟨fun _ h => h, ⟨fun _ h => h, trivial⟩⟩⟩⟩
          ·
            refine st51.sq (
              sc rfl (oCI rfl (tp rfl) cI) <|
              sc rfl (oA rfl (tp rfl)) <| .nil) [43] rfl [(0, 2), (2, 3), (3, 4)] rfl ⟨fun _ h => h, ⟨fun _ h => h, ⟨fun _ h => h, trivial⟩⟩⟩ (fun a75 w75 st75 => ?_)
            refine st75.cs (c := 43) rfl h58 (fun c76 h76 => ?_) (fun c77 h77 => ?_)
            ·
              refine wp_seq ?_
              refine wp_region_list ?_
              refine st75.seg 1 (
                sc rfl (oM rfl (tp rfl)) <| .nil) [] rfl [(0, 2), (2, 3), (3, 4), (45, 2)] rfl ⟨fun _ h => h, ⟨fun _ h => h, ⟨fun _ h => h, ⟨fun _ h => h, trivial⟩⟩⟩⟩ (fun a78 w78 st78 => ?_)
              obtain ⟨v80, p80, h81⟩ := bs h76
              refine st78.cSF (l := []) 2 (st78.bkN (s := 0) rfl (fun _ h => h)) rfl rfl kN182 ((st78.st.has 45 _ rfl).1.trans (st78.st.has 0 _ rfl).1.symm) (by simp) .nil (spec_aPart_w p80) [] rfl [2, 3] rfl rfl (by decide) (fun G79 M79 a79 w79 st79 => ?_)
              have st82 := st79.gs (Gs' := [q51_0, q51_1, G79, q51_3, q51_4]) rfl
              refine st82.nmB (s := 3) 4 rfl rfl (fun _ h => h) [0, 2] rfl (fun b83 st83 => ?_)
              refine st83.seg 1 (
                sc rfl (xFa rfl kF94_1 (opd_nm rfl)) <| .nil) [46, 47] rfl [(0, 2), (2, 3), (3, 4)] rfl ⟨fun _ h => h, ⟨fun _ h => h, ⟨fun _ h => h, trivial⟩⟩⟩ (fun a84 w84 st84 => ?_)
              refine st84.stF (sb := 3) 4 ((PV.root.box rfl).fld owFile.f1) rfl rfl rfl kT9 (by simp) (tp rfl) (tp rfl) rfl rfl (fun _ h => h) [] rfl [0, 2] rfl rfl (fun w85 st85 => ?_)
              refine wpList_nil ?_
              refine then_normal ?_
              refine wp_region_list ?_
              refine st85.seg 1 (
                sc rfl (xFa rfl kF94_3 (opd_nm rfl)) <| .nil) [48] rfl [(0, 2), (2, 3), (3, 4)] rfl ⟨fun _ h => h, ⟨fun _ h => h, ⟨fun _ h => h, trivial⟩⟩⟩ (fun a86 w86 st86 => ?_)
              refine st86.stF (sb := 3) 4 ((PV.root.box rfl).fld owFile.f3) rfl rfl rfl kT4 (by simp) (tp rfl) cB rfl rfl (fun _ h => h) [] rfl [0, 2] rfl rfl (fun w87 st87 => ?_)
              refine wpList_nil ?_
              refine blk_normal ?_
              have st88 := st87.unm (s := 3) 4 rfl rfl (fun _ h => h) [0, 2] rfl
              refine then_normal ?_
              obtain rfl := Option.some.inj h81
              exact ⟨_, _, _, _, _, _, st88.sel [] rfl [(0, 2), (2, 3), (3, 4)] rfl ⟨fun _ h => h, ⟨fun _ h => h, ⟨fun _ h => h, trivial⟩⟩⟩⟩
            ·
              refine wp_seq ?_
              refine wp_region_list ?_
              refine st75.seg 1 (
                sc rfl (oM rfl (tp rfl)) <| .nil) [] rfl [(0, 2), (2, 3), (3, 4), (14, 2)] rfl ⟨fun _ h => h, ⟨fun _ h => h, ⟨fun _ h => h, ⟨fun _ h => h, trivial⟩⟩⟩⟩ (fun a89 w89 st89 => ?_)
              obtain ⟨v91, p91, h92⟩ := bs h77
              refine st89.cSF (l := []) 2 (st89.bkN (s := 0) rfl (fun _ h => h)) rfl rfl kN182 ((st89.st.has 14 _ rfl).1.trans (st89.st.has 0 _ rfl).1.symm) (by simp) .nil (spec_aPart_w p91) [] rfl [2, 3] rfl rfl (by decide) (fun G90 M90 a90 w90 st90 => ?_)
              have st93 := st90.gs (Gs' := [q51_0, q51_1, G90, q51_3, q51_4]) rfl
              obtain ⟨v94, p94, h95⟩ := bs h92
              refine st93.seg 2 (
                sc rfl (xCat rfl (tp rfl) (opd_str (by decide)) p94) <|
                sc rfl (oM rfl (tp rfl)) <| .nil) [16] rfl [(0, 2), (2, 3), (3, 4), (17, 2)] rfl ⟨fun _ h => h, ⟨fun _ h => h, ⟨fun _ h => h, ⟨fun _ h => h, trivial⟩⟩⟩⟩ (fun a96 w96 st96 => ?_)
              obtain ⟨v98, p98, h99⟩ := bs h95
              refine st96.cSF (l := []) 2 (st96.bkN (s := 0) rfl (fun _ h => h)) rfl rfl kN182 ((st96.st.has 17 _ rfl).1.trans (st96.st.has 0 _ rfl).1.symm) (by simp) .nil (spec_aPart_w p98) [16] rfl [2, 3] rfl rfl (by decide) (fun G97 M97 a97 w97 st97 => ?_)
              have st100 := st97.gs (Gs' := [q51_0, q51_1, G97, q51_3, q51_4]) rfl
              obtain ⟨v101, p101, h103⟩ := bs h99
              refine st100.nmB (s := 3) 4 rfl rfl (fun _ h => h) [0, 2] rfl (fun b102 st102 => ?_)
              refine st102.seg 2 (
                sc rfl (xCat rfl (tp rfl) (tp rfl) p101) <|
                sc rfl (xFa rfl kF94_1 (opd_nm rfl)) <| .nil) [19, 20] rfl [(0, 2), (2, 3), (3, 4)] rfl ⟨fun _ h => h, ⟨fun _ h => h, ⟨fun _ h => h, trivial⟩⟩⟩ (fun a104 w104 st104 => ?_)
              refine st104.stF (sb := 3) 4 ((PV.root.box rfl).fld owFile.f1) rfl rfl rfl kT9 (by simp) (tp rfl) (tp rfl) rfl rfl (fun _ h => h) [] rfl [0, 2] rfl rfl (fun w105 st105 => ?_)
              refine wpList_nil ?_
              refine then_normal ?_
              refine wp_seq ?_
              refine wp_region_list ?_
              refine st105.seg 1 (
                sc rfl (oM rfl (tp rfl)) <| .nil) [] rfl [(0, 2), (2, 3), (3, 4), (21, 2)] rfl ⟨fun _ h => h, ⟨fun _ h => h, ⟨fun _ h => h, ⟨fun _ h => h, trivial⟩⟩⟩⟩ (fun a106 w106 st106 => ?_)
              obtain ⟨v108, p108, h109⟩ := bs h103
              refine st106.cSF (l := [.const (.int .i64 2)]) 2 (st106.bkN (s := 0) rfl (fun _ h => h)) rfl rfl kN116 ((st106.st.has 21 _ rfl).1.trans (st106.st.has 0 _ rfl).1.symm) (by simp) (.cons cI .nil) (spec_reader_pick_w p108) [] rfl [2, 3] rfl rfl (by decide) (fun G107 M107 a107 w107 st107 => ?_)
              have st110 := st107.gs (Gs' := [q51_0, q51_1, G107, q51_3, q51_4]) rfl
              refine st110.seg 1 (
                sc rfl (oCI rfl (tp rfl) cI) <| .nil) [23] rfl [(0, 2), (2, 3), (3, 4)] rfl ⟨fun _ h => h, ⟨fun _ h => h, ⟨fun _ h => h, trivial⟩⟩⟩ (fun a111 w111 st111 => ?_)
              refine wpList_nil ?_
              refine then_normal ?_
              refine st111.cs (c := 23) rfl h109 (fun c112 h112 => ?_) (fun c113 h113 => ?_)
              ·
                refine wp_region_list ?_
                refine st111.seg 1 (
                  sc rfl (xFa rfl kF94_3 (opd_nm rfl)) <| .nil) [24] rfl [(0, 2), (2, 3), (3, 4)] rfl ⟨fun _ h => h, ⟨fun _ h => h, ⟨fun _ h => h, trivial⟩⟩⟩ (fun a114 w114 st114 => ?_)
                refine st114.stF (sb := 3) 4 ((PV.root.box rfl).fld owFile.f3) rfl rfl rfl kT4 (by simp) (tp rfl) cB rfl rfl (fun _ h => h) [] rfl [0, 2] rfl rfl (fun w115 st115 => ?_)
                refine wpList_nil ?_
                refine blk_normal ?_
                have st116 := st115.unm (s := 3) 4 rfl rfl (fun _ h => h) [0, 2] rfl
                refine then_normal ?_
                obtain rfl := Option.some.inj h112
                exact ⟨_, _, _, _, _, _, st116.sel [] rfl [(0, 2), (2, 3), (3, 4)] rfl ⟨fun _ h => h, ⟨fun _ h => h, ⟨fun _ h => h, trivial⟩⟩⟩⟩
              ·
                refine wp_region_list ?_
                refine st111.seg 1 (
                  sc rfl (oM rfl (tp rfl)) <| .nil) [] rfl [(0, 2), (2, 3), (3, 4), (25, 2)] rfl ⟨fun _ h => h, ⟨fun _ h => h, ⟨fun _ h => h, ⟨fun _ h => h, trivial⟩⟩⟩⟩ (fun a117 w117 st117 => ?_)
                obtain ⟨v119, p119, h120⟩ := bs h113
                refine st117.cSF (l := []) 2 (st117.bkN (s := 0) rfl (fun _ h => h)) rfl rfl kN182 ((st117.st.has 25 _ rfl).1.trans (st117.st.has 0 _ rfl).1.symm) (by simp) .nil (spec_aPart_w p119) [] rfl [2, 3] rfl rfl (by decide) (fun G118 M118 a118 w118 st118 => ?_)
                have st121 := st118.gs (Gs' := [q51_0, q51_1, G118, q51_3, q51_4]) rfl
                refine st121.seg 1 (
                  sc rfl (xFa rfl kF94_2 (opd_nm rfl)) <| .nil) [26, 27] rfl [(0, 2), (2, 3), (3, 4)] rfl ⟨fun _ h => h, ⟨fun _ h => h, ⟨fun _ h => h, trivial⟩⟩⟩ (fun a122 w122 st122 => ?_)
                refine st122.stF (sb := 3) 4 ((PV.root.box rfl).fld owFile.f2) rfl rfl rfl kT9 (by simp) (tp rfl) (tp rfl) rfl rfl (fun _ h => h) [] rfl [0, 2] rfl rfl (fun w123 st123 => ?_)
                refine wpList_nil ?_
                refine blk_normal ?_
                have st124 := st123.unm (s := 3) 4 rfl rfl (fun _ h => h) [0, 2] rfl
                refine then_normal ?_
                obtain rfl := Option.some.inj h120
                exact ⟨_, _, _, _, _, _, st124.sel [] rfl [(0, 2), (2, 3), (3, 4)] rfl ⟨fun _ h => h, ⟨fun _ h => h, ⟨fun _ h => h, trivial⟩⟩⟩⟩
  · rintro a24 w24 ⟨M24, q24_0, q24_1, q24_2, q24_3, q24_4, st24⟩
    have h125 := k24
    refine wp_seq ?_
    refine wp_region_list ?_
    refine st24.nmB (s := 3) 4 rfl rfl (fun _ h => h) [0, 2] rfl (fun b127 st127 => ?_)
    refine st127.ldW (sb := 3) 4 rfl rfl kT94 rfl (by simp) (fun _ h => h) [] rfl [0, 2] rfl rfl (fun a126 w126 st126 => ?_)
    refine st126.nmB (s := 2) 3 rfl rfl (fun _ h => h) [0, 49] rfl (fun b129 st129 => ?_)
    refine st129.stO (sb := 2) (tv := 49) 3 4 (PV.root.box rfl) rfl rfl rfl kT94 (by simp) (by simp) (by decide) (opd_nm rfl) rfl rfl rfl (fun _ h => h) (fun _ h => h) [] rfl [0] rfl rfl rfl (fun G128 w128 st128 => ?_)
    have st130 := st128.gs (Gs' := [q24_0, q24_1, q24_2, G128, oneB none]) rfl
    refine wpList_nil ?_
    refine then_normal ?_
    refine wp_ret ?_
    exact st130.rsCO (s := 0) 2 3 rfl kT94 rfl rfl (fun _ h => h) (fun _ h => h) (by decide) (bxr h125)

def m_spec_someTree_s0 (s18 : Reader × Tree × Int) : Option ((Reader × Tree × Int) ⊕ (Reader × Tree)) :=
if (cmpI .gtr s18.2.2 (0 : Int)) = true then (Option.bind (α := Reader × Tree) ((m_spec_someFile s18.1).bind fun v26 =>
(m_spec_fileAt s18.2.1 v26.2).bind fun v36 =>
if (cmpI .lss v36 (0 : Int)) = true then ((appO 80 s18.2.1.files [v26.2]).bind fun v51 =>
some (v26.1, (⟨v51⟩ : Tree)))
else (some (v26.1, s18.2.1))) fun o23 =>
(i64 (s18.2.2 - (1 : Int))).bind fun v60 =>
some (.inl (o23.1, o23.2, v60)))
else (some (.inr (s18.1, s18.2.1)))

def m_spec_someTree (x0 : Reader) : Option (Reader × Tree) :=
Option.bind (α := Reader × Tree) ((m_spec_reader_one x0 ([(5 : Int), (4 : Int), (6 : Int), (3 : Int), (8 : Int), (1 : Int), (0 : Int), (10 : Int)] : List Int)).bind fun v12 =>
loopM (fun s18 => m_spec_someTree_s0 s18) (v12.1, (⟨[]⟩ : Tree), v12.2)) fun o9 =>
some (o9.1, o9.2)

theorem spec_someTree_w {x0 : Reader} {r : Reader × Tree} (h : m_spec_someTree x0 = some r) : FnS Tryz.prog 125 (Ow.box (Ow.frz (α := Reader))) ⟨x0⟩ [] ⟨r.1⟩ (.ow (owTree (Ow.row 94 (owFile (Ow.row 140 (Ow.frz (α := Stmt)))))) r.2) := by
  unfold m_spec_someTree at h
  refine fnSB (fn := Tryz.f125) 1 9 Tryz.func125 rfl (of_decide_eq_true rfl) rfl (fun M G w0 b0 a0 st0 => ?_)
  refine wp_seq ?_
  refine wp_region_list ?_
  refine st0.alcW (ow := (owTree (Ow.row 94 (owFile (Ow.row 140 (Ow.frz (α := Stmt))))))) 6 rfl rfl kZ30 (owTree.z Ow.row_z) (by simp) [] rfl [0] rfl rfl (fun b1 M1 a1 w1 st1 => ?_)
  have st2 := st1.gs (Gs' := [oneB none, G, oneB none, oneB none, oneB none, oneB none, (oneB (some b1)), oneB none, oneB none]) rfl
  refine wpList_nil ?_
  refine then_normal ?_
  refine wp_seq ?_
  refine wp_region_list ?_
  refine st2.bldW (ow := (owTree (Ow.row 94 (owFile (Ow.row 140 (Ow.frz (α := Stmt))))))) (parts := []) (ns := [1]) (zs := zpTree) (x := (⟨[]⟩ : Tree)) 0 [] rfl rfl rfl kB30 kC30 (by simp) (((owTree (Ow.row 94 (owFile (Ow.row 140 (Ow.frz (α := Stmt))))))).more (owTree.mk (x := (⟨[]⟩ : Tree)) (Ow.row_z _ _)) (fun b => (fun hb => hb.elim))) (by simp) [] rfl [0, 2] rfl rfl rfl (fun G3 a3 w3 st3 => ?_)
  have st4 := st3.gs (Gs' := [G3, G, oneB none, oneB none, oneB none, oneB none, (oneB (some b1)), oneB none, oneB none]) rfl
  refine st4.alcW (ow := (owTree (Ow.row 94 (owFile (Ow.row 140 (Ow.frz (α := Stmt))))))) 7 rfl rfl kZ30 (owTree.z Ow.row_z) (by simp) [] rfl [0, 2, 6] rfl rfl (fun b5 M5 a5 w5 st5 => ?_)
  have st6 := st5.gs (Gs' := [G3, G, oneB none, oneB none, oneB none, oneB none, (oneB (some b1)), (oneB (some b5)), oneB none]) rfl
  refine st6.stO (sb := 3) (tv := 6) 7 0 (PV.root.box rfl) rfl rfl rfl kT30 (by simp) (by simp) (by decide) (opd_nm rfl) rfl rfl rfl (fun _ h => h) (fun _ h => h) [] rfl [0, 2] rfl rfl rfl (fun G7 w7 st7 => ?_)
  have st8 := st7.gs (Gs' := [oneB none, G, oneB none, oneB none, oneB none, oneB none, (oneB (some b1)), G7, oneB none]) rfl
  refine wpList_nil ?_
  refine then_normal ?_
  obtain ⟨o9, p9, k9⟩ := bs h
  refine wp_seq_join (fun a w => ∃ M1 q9_0 q9_1 q9_2 q9_3 q9_4 q9_5 q9_6 q9_7 q9_8, Sx (Frm.chg w0 G) 27 M M1 [q9_0, q9_1, q9_2, q9_3, q9_4, q9_5, q9_6, q9_7, q9_8] [] [(0, 1, dnm (Ow.box (Ow.frz (α := Reader))) q9_1 ⟨o9.1⟩ (.pointer (some ⟨b0, 0, none⟩)) []), (2, 6, dow (Ow.box (owTree (Ow.row 94 (owFile (Ow.row 140 (Ow.frz (α := Stmt))))))) q9_6 ⟨zTree⟩), (3, 7, dow (Ow.box (owTree (Ow.row 94 (owFile (Ow.row 140 (Ow.frz (α := Stmt))))))) q9_7 ⟨o9.2⟩)] a w) ?_ ?_
  ·
    refine wp_seq ?_
    refine wp_region_list ?_
    refine st8.seg 2 (
      sc rfl (oM rfl (tp rfl)) <|
      sc rfl (op_lit (opds := [.const (.int .i64 5), .const (.int .i64 4), .const (.int .i64 6), .const (.int .i64 3), .const (.int .i64 8), .const (.int .i64 1), .const (.int .i64 0), .const (.int .i64 10)]) rfl kS25 kY25 rfl rfl (by decide) (.cons cI (.cons cI (.cons cI (.cons cI (.cons cI (.cons cI (.cons cI (.cons cI .nil))))))))) <| .nil) [8] rfl [(0, 1), (2, 6), (3, 7), (7, 1)] rfl ⟨fun _ h => h, ⟨fun _ h => h, ⟨fun _ h => h, ⟨fun _ h => h, trivial⟩⟩⟩⟩ (fun a10 w10 st10 => ?_)
    obtain ⟨v12, p12, h13⟩ := bs p9
    refine st10.cSF (l := [.tmp 8]) 1 (st10.bkN (s := 0) rfl (fun _ h => h)) rfl rfl kN117 ((st10.st.has 7 _ rfl).1.trans (st10.st.has 0 _ rfl).1.symm) (by simp) (.cons (tp rfl) .nil) (spec_reader_one_w p12) [] rfl [2, 3] rfl rfl (by decide) (fun G11 M11 a11 w11 st11 => ?_)
    have st14 := st11.gs (Gs' := [oneB none, G11, oneB none, oneB none, oneB none, oneB none, (oneB (some b1)), G7, oneB none]) rfl
    refine st14.seg 1 (
      sc rfl (oA rfl (tp rfl)) <| .nil) [4] rfl [(0, 1), (2, 6), (3, 7)] rfl ⟨fun _ h => h, ⟨fun _ h => h, ⟨fun _ h => h, trivial⟩⟩⟩ (fun a15 w15 st15 => ?_)
    refine wpList_nil ?_
    refine then_normal ?_
    refine wp_block ?_
    have st16 := st15.unm (s := 2) 6 rfl rfl (fun _ h => h) [0, 3] rfl
    have st17 := st16.unm (s := 3) 7 rfl rfl (fun _ h => h) [0, 2] rfl
    refine loop_model h13 (fun s18 a w => ∃ M1 q18_0 q18_1 q18_2 q18_3 q18_4 q18_5 q18_6 q18_7 q18_8, Sx (Frm.chg w0 G) 27 M M1 [q18_0, q18_1, q18_2, q18_3, q18_4, q18_5, q18_6, q18_7, q18_8] [(4, dt s18.2.2)] [(0, 1, dnm (Ow.box (Ow.frz (α := Reader))) q18_1 ⟨s18.1⟩ (.pointer (some ⟨b0, 0, none⟩)) []), (2, 6, dow (Ow.box (owTree (Ow.row 94 (owFile (Ow.row 140 (Ow.frz (α := Stmt))))))) q18_6 ⟨zTree⟩), (3, 7, dow (Ow.box (owTree (Ow.row 94 (owFile (Ow.row 140 (Ow.frz (α := Stmt))))))) q18_7 ⟨s18.2.1⟩)] a w) ⟨_, _, _, _, _, _, _, _, _, _, st17.sel [4] rfl [(0, 1), (2, 6), (3, 7)] rfl ⟨fun _ h => h, ⟨fun _ h => h, ⟨fun _ h => h, trivial⟩⟩⟩⟩ ?_
    rintro s18 x18 a18 w18 ⟨M18, q18_0, q18_1, q18_2, q18_3, q18_4, q18_5, q18_6, q18_7, q18_8, st18⟩ hs18 hx18
    have h19 : m_spec_someTree_s0 s18 = some x18 := hs18
    unfold m_spec_someTree_s0 at h19
    refine wp_seq ?_
    refine st18.sq (
        sc rfl (oM rfl (tp rfl)) <|
        sc rfl (oCI rfl (tp rfl) cI) <| .nil) [4, 11] rfl [(0, 1), (2, 6), (3, 7)] rfl ⟨fun _ h => h, ⟨fun _ h => h, ⟨fun _ h => h, trivial⟩⟩⟩ (fun a20 w20 st20 => ?_)
    refine st20.cs (c := 11) rfl h19 (fun c21 h21 => ?_) (fun c22 h22 => ?_)
    ·
      refine wp_skip ?_
      refine then_normal ?_
      obtain ⟨o23, p23, k23⟩ := bs h21
      refine wp_seq_join (fun a w => ∃ M1 q23_0 q23_1 q23_2 q23_3 q23_4 q23_5 q23_6 q23_7 q23_8, Sx (Frm.chg w0 G) 27 M M1 [q23_0, q23_1, q23_2, q23_3, q23_4, q23_5, q23_6, q23_7, q23_8] [(4, dt s18.2.2)] [(0, 1, dnm (Ow.box (Ow.frz (α := Reader))) q23_1 ⟨o23.1⟩ (.pointer (some ⟨b0, 0, none⟩)) []), (2, 6, dow (Ow.box (owTree (Ow.row 94 (owFile (Ow.row 140 (Ow.frz (α := Stmt))))))) q23_6 ⟨zTree⟩), (3, 7, dow (Ow.box (owTree (Ow.row 94 (owFile (Ow.row 140 (Ow.frz (α := Stmt))))))) q23_7 ⟨o23.2⟩)] a w) ?_ ?_
      ·
        refine wp_block ?_
        refine wp_seq ?_
        refine wp_region_list ?_
        refine st20.seg 1 (
            sc rfl (oM rfl (tp rfl)) <| .nil) [4] rfl [(0, 1), (2, 6), (3, 7), (14, 1)] rfl ⟨fun _ h => h, ⟨fun _ h => h, ⟨fun _ h => h, ⟨fun _ h => h, trivial⟩⟩⟩⟩ (fun a24 w24 st24 => ?_)
        obtain ⟨v26, p26, h27⟩ := bs p23
        refine st24.cSO (l := []) 1 2 (st24.bkN (s := 0) rfl (fun _ h => h)) rfl rfl kN158 ((st24.st.has 14 _ rfl).1.trans (st24.st.has 0 _ rfl).1.symm) (by simp) (by simp) (by decide) .nil (spec_someFile_w p26) [4] rfl [2, 3] rfl rfl rfl rfl (by decide) (fun G25 H25 M25 a25 w25 st25 => ?_)
        have st28 := st25.gs (Gs' := [q18_0, G25, H25, q18_3, q18_4, q18_5, q18_6, q18_7, q18_8]) rfl
        refine st28.alcW (ow := (owFile (Ow.row 140 (Ow.frz (α := Stmt))))) 8 rfl rfl kZ94 (owFile.z Ow.row_z) (by simp) [4] rfl [0, 2, 3, 15] rfl rfl (fun b29 M29 a29 w29 st29 => ?_)
        have st30 := st29.gs (Gs' := [q18_0, G25, H25, q18_3, q18_4, q18_5, q18_6, q18_7, (oneB (some b29))]) rfl
        refine st30.stO (sb := 5) (tv := 15) 8 2 (PV.root.box rfl) rfl rfl rfl kT94 (by simp) (by simp) (by decide) (opd_nm rfl) rfl rfl rfl (fun _ h => h) (fun _ h => h) [4] rfl [0, 2, 3] rfl rfl rfl (fun G31 w31 st31 => ?_)
        have st32 := st31.gs (Gs' := [q18_0, G25, oneB none, q18_3, q18_4, q18_5, q18_6, q18_7, G31]) rfl
        refine wpList_nil ?_
        refine then_normal ?_
        obtain ⟨v36, p36, h37⟩ := bs h27
        refine st32.nmB (s := 3) 7 rfl rfl (fun _ h => h) [0, 2, 5] rfl (fun b33 st33 => ?_)
        refine st33.hdW (s := 3) 7 true (fun _ => (PV.root.box rfl)) rfl rfl (fun _ h => h) [0, 2, 5] rfl (fun cs34 hS34 st34 => ?_)
        refine st34.hdW (s := 5) 8 true (fun _ => (PV.root.box rfl)) rfl rfl (fun _ h => h) [0, 2, 3] rfl (fun cs35 hS35 st35 => ?_)
        refine st35.sq (
            sc rfl (xLw (sb := 3) (.head _) rfl (hS34 rfl) rfl kT30 (opd_nm rfl) rfl) <|
            sc rfl (xLw (sb := 5) (.head _) rfl (hS35 rfl) rfl kT94 (opd_nm rfl) rfl) <|
            sc rfl (op_callT (l := [.tmp 16, .tmp 17]) st35.ob.sub rfl kN100 (.cons (lendP (sb := 3) st35.ob 7 (PV.root.box rfl) (.head _) rfl (fits_all rfl (hS34 rfl)) (tp rfl) rfl (fun _ h => h)) (.cons (lendP (sb := 5) st35.ob 8 (PV.root.box rfl) (.head _) rfl (fits_all rfl (hS35 rfl)) (tp rfl) rfl (fun _ h => h)) .nil)) (spec_fileAt_w p36) flat_int) <|
            sc rfl (oCI rfl (tp rfl) cI) <| .nil) [4, 19] rfl [(0, 1), (2, 6), (3, 7), (5, 8)] rfl ⟨fun _ h => h, ⟨fun _ h => h, ⟨fun _ h => h, ⟨fun _ h => h, trivial⟩⟩⟩⟩ (fun a38 w38 st38 => ?_)
        have st39 := st38.ncf (s := 3) 7 rfl rfl (fun _ h => h) [0, 2, 5] rfl
        have st40 := st39.ncf (s := 5) 8 rfl rfl (fun _ h => h) [0, 2, 3] rfl
        refine st40.cs (c := 19) rfl h37 (fun c41 h41 => ?_) (fun c42 h42 => ?_)
        ·
          refine wp_region_list ?_
          refine st40.hdR (s := 3) 7 true (fun _ => ((PV.root.box rfl).fld owTree.f0)) rfl rfl (fun _ h => h) [0, 2, 5] rfl (fun g43 A43 c43 hA43 st43 => ?_)
          refine st43.seg 2 (
              sc rfl (xFa rfl kF30_0 (opd_nm rfl)) <|
              sc rfl (xLc (sb := 3) (.head _) rfl rfl rfl kT28 (tp rfl) rfl) <| .nil) [4, 21] rfl [(0, 1), (2, 6), (3, 7), (5, 8)] rfl ⟨fun _ h => h, ⟨fun _ h => h, ⟨fun _ h => h, ⟨fun _ h => h, trivial⟩⟩⟩⟩ (fun a44 w44 st44 => ?_)
          refine st44.ldW (sb := 5) 8 rfl rfl kT94 rfl (by simp) (fun _ h => h) [4, 21] rfl [0, 2, 3] rfl rfl (fun a45 w45 st45 => ?_)
          refine st45.litW (oe := (owFile (Ow.row 140 (Ow.frz (α := Stmt))))) (opds := [.tmp 22]) (xs := [v26.2]) 4 [8] rfl rfl kI28 kY28 rfl rfl (by decide) rfl (by decide) (rowW_lit (own_cells (st45.st.has 22 _ rfl)) (fun b hb => ⟨8, by simp, hb⟩)) (fun q hq => by
 simp only [List.mem_cons, List.not_mem_nil, or_false] at hq
 subst hq
 exact Ow.len _ (own_cells (st45.st.has 22 _ rfl))) (by simp) [4, 21] rfl [0, 2, 3] rfl rfl rfl (by decide) (fun G46 M46 a46 w46 st46 => ?_)
          have st47 := st46.gs (Gs' := [q18_0, G25, oneB none, q18_3, G46, q18_5, q18_6, q18_7, oneB none]) rfl
          refine st47.mvG (s := 21) (sb := 3) 7 5 ((PV.root.box rfl).fld owTree.f0) (.head _) rfl (fits_one rfl rfl) rfl (by simp) (by simp) (by decide) rfl (fun _ h => h) [4] rfl [0, 2, 23] rfl rfl rfl rfl (fun G49 H49 st49 => ?_)
          have st50 := st49.gs (Gs' := [q18_0, G25, oneB none, q18_3, G46, H49, q18_6, G49, oneB none]) rfl
          obtain ⟨v51, p51, h52⟩ := bs h41
          refine st50.appW 5 4 rfl rfl kE28 rfl rfl (by simp) (by simp) (by decide) (fun _ h => h) (fun _ h => h) p51 [4] rfl [0, 2, 3] rfl rfl rfl (fun G48 M48 a48 w48 st48 => ?_)
          have st53 := st48.gs (Gs' := [q18_0, G25, oneB none, q18_3, oneB none, G48, q18_6, G49, oneB none]) rfl
          refine st53.seg 1 (
              sc rfl (xFa rfl kF30_0 (opd_hl rfl)) <| .nil) [4, 25] rfl [(0, 1), (2, 6), (3, 7), (24, 5)] rfl ⟨fun _ h => h, ⟨fun _ h => h, ⟨fun _ h => h, ⟨fun _ h => h, trivial⟩⟩⟩⟩ (fun a54 w54 st54 => ?_)
          refine st54.stH (sb := 3) (tv := 24) 7 5 rfl rfl rfl kT28 (by simp) (by simp) (by decide) (tp rfl) rfl rfl (fun _ h => h) (fun _ h => h) [4] rfl [0, 2] rfl rfl rfl (fun G55 w55 st55 => ?_)
          have st56 := st55.gs (Gs' := [q18_0, G25, oneB none, q18_3, oneB none, oneB none, q18_6, G55, oneB none]) rfl
          refine wpList_nil ?_
          refine blk_normal ?_
          have st57 := st56.unm (s := 3) 7 rfl rfl (fun _ h => h) [0, 2] rfl
          refine then_normal ?_
          obtain rfl := Option.some.inj h52
          exact ⟨_, _, _, _, _, _, _, _, _, _, st57.sel [4] rfl [(0, 1), (2, 6), (3, 7)] rfl ⟨fun _ h => h, ⟨fun _ h => h, ⟨fun _ h => h, trivial⟩⟩⟩⟩
        ·
          refine wp_skip ?_
          refine blk_normal ?_
          have st58 := st40.unm (s := 3) 7 rfl rfl (fun _ h => h) [0, 2, 5] rfl
          refine then_normal ?_
          obtain rfl := Option.some.inj h42
          exact ⟨_, _, _, _, _, _, _, _, _, _, st58.sel [4] rfl [(0, 1), (2, 6), (3, 7)] rfl ⟨fun _ h => h, ⟨fun _ h => h, ⟨fun _ h => h, trivial⟩⟩⟩⟩
      · rintro a23 w23 ⟨M23, q23_0, q23_1, q23_2, q23_3, q23_4, q23_5, q23_6, q23_7, q23_8, st23⟩
        have h59 := k23
        obtain ⟨v60, p60, h61⟩ := bs h59
        refine st23.rg (
            sc rfl (oM rfl (tp rfl)) <|
            sc rfl (xAr rfl (tp rfl) cI p60) <|
            sc rfl (oA rfl (tp rfl)) <| .nil) [4] rfl [(0, 1), (2, 6), (3, 7)] rfl ⟨fun _ h => h, ⟨fun _ h => h, ⟨fun _ h => h, trivial⟩⟩⟩ (fun a62 w62 st62 => ?_)
        refine then_normal ?_
        exact ⟨_, (Option.some.inj h61).symm, ⟨_, _, _, _, _, _, _, _, _, _, st62.sel [4] rfl [(0, 1), (2, 6), (3, 7)] rfl ⟨fun _ h => h, ⟨fun _ h => h, ⟨fun _ h => h, trivial⟩⟩⟩⟩⟩
    ·
      refine wp_exit (thn_exit (thn_exit (exit_here ?_)))
      refine then_normal ?_
      have h63 := lo h22 hx18
      obtain rfl := Option.some.inj h63
      exact ⟨_, _, _, _, _, _, _, _, _, _, st20.sel [] rfl [(0, 1), (2, 6), (3, 7)] rfl ⟨fun _ h => h, ⟨fun _ h => h, ⟨fun _ h => h, trivial⟩⟩⟩⟩
  · rintro a9 w9 ⟨M9, q9_0, q9_1, q9_2, q9_3, q9_4, q9_5, q9_6, q9_7, q9_8, st9⟩
    have h64 := k9
    refine wp_seq ?_
    refine wp_region_list ?_
    refine st9.nmB (s := 3) 7 rfl rfl (fun _ h => h) [0, 2] rfl (fun b66 st66 => ?_)
    refine st66.ldW (sb := 3) 7 rfl rfl kT30 rfl (by simp) (fun _ h => h) [] rfl [0, 2] rfl rfl (fun a65 w65 st65 => ?_)
    refine st65.nmB (s := 2) 6 rfl rfl (fun _ h => h) [0, 26] rfl (fun b68 st68 => ?_)
    refine st68.stO (sb := 2) (tv := 26) 6 7 (PV.root.box rfl) rfl rfl rfl kT30 (by simp) (by simp) (by decide) (opd_nm rfl) rfl rfl rfl (fun _ h => h) (fun _ h => h) [] rfl [0] rfl rfl rfl (fun G67 w67 st67 => ?_)
    have st69 := st67.gs (Gs' := [q9_0, q9_1, q9_2, q9_3, q9_4, q9_5, G67, oneB none, q9_8]) rfl
    refine wpList_nil ?_
    refine then_normal ?_
    refine wp_ret ?_
    exact st69.rsCO (s := 0) 1 6 rfl kT30 rfl rfl (fun _ h => h) (fun _ h => h) (by decide) (bxr h64)

end Go.Proofs.YtionokffhhiicaaGreatDoor

namespace Go.Proofs.YtionokffhhiicaaGreatDoor
open Go.RowKit
set_option maxRecDepth 10000

theorem kS141 : slB Tryz.prog 141 1 = true := by kernel_rfl
theorem kY141 : zlB Tryz.prog 141 = true := by kernel_rfl
theorem kN126 : fnB Tryz.prog 126 = true := by kernel_rfl
theorem kN31 : fnB Tryz.prog 31 = true := by kernel_rfl
theorem kN33 : fnB Tryz.prog 33 = true := by kernel_rfl
theorem kN35 : fnB Tryz.prog 35 = true := by kernel_rfl
theorem kN53 : fnB Tryz.prog 53 = true := by kernel_rfl
theorem kN54 : fnB Tryz.prog 54 = true := by kernel_rfl
theorem kN130 : fnB Tryz.prog 130 = true := by kernel_rfl
theorem kN58 : fnB Tryz.prog 58 = true := by kernel_rfl
theorem kN82 : fnB Tryz.prog 82 = true := by kernel_rfl
theorem kN55 : fnB Tryz.prog 55 = true := by kernel_rfl
theorem kN83 : fnB Tryz.prog 83 = true := by kernel_rfl
theorem kN84 : fnB Tryz.prog 84 = true := by kernel_rfl
theorem kN56 : fnB Tryz.prog 56 = true := by kernel_rfl
theorem kN91 : fnB Tryz.prog 91 = true := by kernel_rfl

def m_spec_anyPath (x0 : Reader) : Option (Reader × (List Int)) :=
(m_spec_reader_pick x0 (20 : Int)).bind fun v4 =>
if (cmpI .eql v4.2 (0 : Int)) = true then ((m_spec_reader_pick v4.1 (3 : Int)).bind fun v11 =>
(atI ([([] : List Int), ([(0 : Int), (0 : Int)] : List Int), ([(3 : Int)] : List Int)] : List (List Int)) v11.2).bind fun v13 =>
some (v11.1, v13))
else ((m_spec_somePath v4.1).bind fun v18 =>
some (v18.1, v18.2))

theorem spec_anyPath_w {x0 : Reader} {r : Reader × (List Int)} (h : m_spec_anyPath x0 = some r) : FnS Tryz.prog 79 (Ow.box (Ow.frz (α := Reader))) ⟨x0⟩ [] ⟨r.1⟩ (.frz (dt r.2)) := by
  unfold m_spec_anyPath at h
  refine fnSB (fn := Tryz.f79) 0 1 Tryz.func79 rfl (of_decide_eq_true rfl) rfl (fun M G w0 b0 a0 st0 => ?_)
  refine st0.sq (
    sc rfl (oA rfl (opd_nil (α := Int))) <| .nil) [] rfl [(0, 0)] rfl ⟨fun _ h => h, trivial⟩ (fun a1 w1 st1 => ?_)
  refine wp_seq ?_
  refine wp_seq ?_
  refine wp_region_list ?_
  refine st1.seg 1 (
    sc rfl (oM rfl (tp rfl)) <| .nil) [] rfl [(0, 0), (3, 0)] rfl ⟨fun _ h => h, ⟨fun _ h => h, trivial⟩⟩ (fun a2 w2 st2 => ?_)
  obtain ⟨v4, p4, h5⟩ := bs h
  refine st2.cSF (l := [.const (.int .i64 20)]) 0 (st2.bkN (s := 0) rfl (fun _ h => h)) rfl rfl kN116 ((st2.st.has 3 _ rfl).1.trans (st2.st.has 0 _ rfl).1.symm) (by simp) (.cons cI .nil) (spec_reader_pick_w p4) [] rfl [] rfl rfl (by decide) (fun G3 M3 a3 w3 st3 => ?_)
  refine st3.seg 1 (
    sc rfl (oCI rfl (tp rfl) cI) <| .nil) [5] rfl [(0, 0)] rfl ⟨fun _ h => h, trivial⟩ (fun a6 w6 st6 => ?_)
  refine wpList_nil ?_
  refine then_normal ?_
  refine st6.cs (c := 5) rfl h5 (fun c7 h7 => ?_) (fun c8 h8 => ?_)
  ·
    refine wp_seq ?_
    refine wp_region_list ?_
    refine st6.seg 5 (
      sc rfl (op_lit (opds := []) (α := Int) rfl kS25 kY25 rfl rfl (by decide) .nil) <|
      sc rfl (op_lit (opds := [.const (.int .i64 0), .const (.int .i64 0)]) rfl kS25 kY25 rfl rfl (by decide) (.cons cI (.cons cI .nil))) <|
      sc rfl (op_lit (opds := [.const (.int .i64 3)]) rfl kS25 kY25 rfl rfl (by decide) (.cons cI .nil)) <|
      sc rfl (op_lit (opds := [.tmp 6, .tmp 7, .tmp 8]) rfl kS141 kY141 rfl rfl (by decide) (.cons (tp rfl) (.cons (tp rfl) (.cons (tp rfl) .nil)))) <|
      sc rfl (oM rfl (tp rfl)) <| .nil) [9] rfl [(0, 0), (10, 0)] rfl ⟨fun _ h => h, ⟨fun _ h => h, trivial⟩⟩ (fun a9 w9 st9 => ?_)
    obtain ⟨v11, p11, h12⟩ := bs h7
    refine st9.cSF (l := [.const (.int .i64 3)]) 0 (st9.bkN (s := 0) rfl (fun _ h => h)) rfl rfl kN116 ((st9.st.has 10 _ rfl).1.trans (st9.st.has 0 _ rfl).1.symm) (by simp) (.cons cI .nil) (spec_reader_pick_w p11) [9] rfl [] rfl rfl (by decide) (fun G10 M10 a10 w10 st10 => ?_)
    obtain ⟨v13, p13, h14⟩ := bs h12
    refine st10.seg 3 (
      sc rfl (xIdx rfl kS141 (tp rfl) (tp rfl) p13) <|
      sc rfl (op_load rfl kT25 (tp rfl)) <|
      sc rfl (oA rfl (tp rfl)) <| .nil) [2] rfl [(0, 0)] rfl ⟨fun _ h => h, trivial⟩ (fun a15 w15 st15 => ?_)
    refine wpList_nil ?_
    refine then_normal ?_
    refine wp_ret (thn_ret ?_)
    exact st15.rsD (s := 0) 0 rfl rfl rfl (fun _ h => h) (bxr h14)
  ·
    refine wp_skip ?_
    refine then_normal ?_
    refine wp_seq ?_
    refine wp_region_list ?_
    refine st6.seg 1 (
      sc rfl (oM rfl (tp rfl)) <| .nil) [] rfl [(0, 0), (14, 0)] rfl ⟨fun _ h => h, ⟨fun _ h => h, trivial⟩⟩ (fun a16 w16 st16 => ?_)
    obtain ⟨v18, p18, h19⟩ := bs h8
    refine st16.cSF (l := []) 0 (st16.bkN (s := 0) rfl (fun _ h => h)) rfl rfl kN126 ((st16.st.has 14 _ rfl).1.trans (st16.st.has 0 _ rfl).1.symm) (by simp) .nil (spec_somePath_w p18) [] rfl [] rfl rfl (by decide) (fun G17 M17 a17 w17 st17 => ?_)
    refine st17.seg 1 (
      sc rfl (oA rfl (tp rfl)) <| .nil) [2] rfl [(0, 0)] rfl ⟨fun _ h => h, trivial⟩ (fun a20 w20 st20 => ?_)
    refine wpList_nil ?_
    refine then_normal ?_
    refine wp_ret ?_
    exact st20.rsD (s := 0) 0 rfl rfl rfl (fun _ h => h) (bxr h19)

def m_laws_equalTexts_s0 (x0 : List Str) (x1 : List Str) (s8 : Int) : Option (Int ⊕ (Unit ⊕ Bool)) :=
if (cmpI .lss s8 (x0.length : Int)) = true then ((atI x0 s8).bind fun v13 =>
(atI x1 s8).bind fun v14 =>
if (decide (v13 ≠ v14)) = true then (some (.inr (.inr false)))
else ((i64 (s8 + (1 : Int))).bind fun v23 =>
some (.inl v23)))
else (some (.inr (.inl ())))

def m_laws_equalTexts (x0 : List Str) (x1 : List Str) : Option Bool :=
if (cmpI .neq (x0.length : Int) (x1.length : Int)) = true then (some false)
else (Option.bind (α := Unit ⊕ Bool) (loopM (fun s8 => m_laws_equalTexts_s0 x0 x1 s8) (0 : Int)) (Sum.elim (fun b6 =>
some true) some))

theorem laws_equalTexts_w {x0 : List Str} {x1 : List Str} {r : Bool} (h : m_laws_equalTexts x0 x1 = some r) : Fn Tryz.prog 21 [dt x0, dt x1] (dt r) := by
  unfold m_laws_equalTexts at h
  refine fnx (fn := Tryz.f21) 0 Tryz.func21 rfl (of_decide_eq_true rfl) rfl (fun M w0 a0 st0 => ?_)
  refine st0.sq0 (
    sc rfl (oA rfl cB) <| .nil) [0, 1] rfl (fun a1 w1 st1 => ?_)
  refine wp_seq ?_
  refine st1.sq0 (
    sc rfl (oM rfl (tp rfl)) <|
    sc rfl (op_lenL rfl kL47 (tp rfl)) <|
    sc rfl (oM rfl (tp rfl)) <|
    sc rfl (op_lenL rfl kL47 (tp rfl)) <|
    sc rfl (oCI rfl (tp rfl) (tp rfl)) <| .nil) [0, 1, 10] rfl (fun a2 w2 st2 => ?_)
  refine st2.cs (c := 10) rfl h (fun c3 h3 => ?_) (fun c4 h4 => ?_)
  ·
    refine st2.sq0 (
      sc rfl (oA rfl cB) <| .nil) [4] rfl (fun a5 w5 st5 => ?_)
    refine wp_ret (thn_ret ?_)
    exact st5.ret rfl rfl h3
  ·
    refine wp_skip ?_
    refine then_normal ?_
    obtain ⟨o6, p6, k6⟩ := bs h4
    refine wp_seq_join (fun a w => ∃ b6, o6 = .inl b6 ∧ Sx (Frm.of w0) 26 M M [] [] [] a w) ?_ ?_
    ·
      refine st2.sq0 (
        sc rfl (oA rfl cI) <| .nil) [0, 1, 5] rfl (fun a7 w7 st7 => ?_)
      refine wp_block ?_
      refine loop_model p6 (fun s8 a w => Sx (Frm.of w0) 26 M M [] [(0, dt x0), (1, dt x1), (5, dt s8)] [] a w) (st7.sel0 [0, 1, 5] rfl) ?_
      rintro s8 x8 a8 w8 st8 hs8 hx8
      have h9 : m_laws_equalTexts_s0 x0 x1 s8 = some x8 := hs8
      unfold m_laws_equalTexts_s0 at h9
      refine wp_seq ?_
      refine st8.sq0 (
          sc rfl (oM rfl (tp rfl)) <|
          sc rfl (oM rfl (tp rfl)) <|
          sc rfl (op_lenL rfl kL47 (tp rfl)) <|
          sc rfl (oCI rfl (tp rfl) (tp rfl)) <| .nil) [0, 1, 5, 14] rfl (fun a10 w10 st10 => ?_)
      refine st10.cs (c := 14) rfl h9 (fun c11 h11 => ?_) (fun c12 h12 => ?_)
      ·
        refine wp_skip ?_
        refine then_normal ?_
        refine wp_seq ?_
        refine wp_block ?_
        refine wp_seq ?_
        obtain ⟨v13, p13, h15⟩ := bs h11
        obtain ⟨v14, p14, h16⟩ := bs h15
        refine st10.dr (D := [_, _, _, _, _, _, _, _, _]) Tryz_mixed [[], [], [0, 1], [0, 1, 2], [], [], [4, 5], [4, 5, 6], [0, 1, 2, 3, 4, 5, 6, 7]] [[(0, none)], [(5, none)], [(17, some 0), (18, some 1)], [(19, some 2)], [(1, none)], [(5, none)], [(21, some 4), (22, some 5)], [(23, some 6)], [(20, some 3), (24, some 7)]] (by decide +kernel) (
          rc rfl rfl (oM rfl (tp rfl)) <|
            rc rfl rfl (oM rfl (tp rfl)) <|
            rc rfl rfl (xIdx rfl kS47 (tp rfl) (tp rfl) p13) <|
            rc rfl rfl (op_load rfl kT9 (tp rfl)) <|
            rc rfl rfl (oM rfl (tp rfl)) <|
            rc rfl rfl (oM rfl (tp rfl)) <|
            rc rfl rfl (xIdx rfl kS47 (tp rfl) (tp rfl) p14) <|
            rc rfl rfl (op_load rfl kT9 (tp rfl)) <|
            rc rfl rfl (op_neS rfl (tp rfl) (tp rfl)) <| .nil) [0, 1, 5, 25] rfl [] rfl trivial (fun a17 w17 st17 => ?_)
        refine then_normal ?_
        refine st17.cs (c := 25) rfl h16 (fun c18 h18 => ?_) (fun c19 h19 => ?_)
        ·
          refine st17.sq0 (
              sc rfl (oA rfl cB) <| .nil) [4] rfl (fun a20 w20 st20 => ?_)
          refine wp_ret (blk_ret (thn_ret (thn_ret (blk_ret (thn_ret ?_)))))
          have h21 := lo h18 hx8
          have h22 := jo h21 k6
          exact st20.ret rfl rfl h22
        ·
          refine wp_skip ?_
          refine blk_normal ?_
          refine then_normal ?_
          obtain ⟨v23, p23, h24⟩ := bs h19
          refine st17.rg0 (
              sc rfl (oM rfl (tp rfl)) <|
              sc rfl (xAr rfl (tp rfl) cI p23) <|
              sc rfl (oA rfl (tp rfl)) <| .nil) [0, 1, 5] rfl (fun a25 w25 st25 => ?_)
          refine then_normal ?_
          exact ⟨_, (Option.some.inj h24).symm, st25.sel0 [0, 1, 5] rfl⟩
      ·
        refine wp_exit (thn_exit (thn_exit (exit_here ?_)))
        refine then_normal ?_
        have h26 := lo h12 hx8
        exact ⟨_, (Option.some.inj h26).symm, st10.sel0 [] rfl⟩
    · rintro a6 w6 ⟨b6, rfl, st6⟩
      have h27 := jn k6
      refine st6.sq0 (
        sc rfl (oA rfl cB) <| .nil) [4] rfl (fun a28 w28 st28 => ?_)
      refine wp_ret ?_
      exact st28.ret rfl rfl h27

def m_impl_IsPackage (x0 : Tree) (x1 : List Int) (x2 : Str) : Option Bool :=
(m_impl_FindSpec x0 x1 x2).bind fun v2 =>
some (cmpI .eql v2.kind (2 : Int) || cmpI .eql v2.kind (3 : Int))

theorem impl_IsPackage_w {x0 : Tree} {x1 : List Int} {x2 : Str} {r : Bool} (h : m_impl_IsPackage x0 x1 x2 = some r) : Fn Tryz.prog 31 [dt x0, dt x1, dt x2] (dt r) := by
  unfold m_impl_IsPackage at h
  refine fnx (fn := Tryz.f31) 0 Tryz.func31 rfl (of_decide_eq_true rfl) rfl (fun M w0 a0 st0 => ?_)
  refine st0.sq0 (
    sc rfl (op_box rfl (tp rfl)) <|
    sc rfl (oA rfl cB) <| .nil) [1, 2, 3] rfl (fun a1 w1 st1 => ?_)
  obtain ⟨v2, p2, h3⟩ := bs h
  refine st1.sq0 (
    sc rfl (op_load rfl kT30 (tp rfl)) <|
    sc rfl (oM rfl (tp rfl)) <|
    sc rfl (oM rfl (tp rfl)) <|
    sc rfl (op_call (l := [.tmp 8, .tmp 9, .tmp 10]) rfl kN61 (.cons (tp rfl) (.cons (tp rfl) (.cons (tp rfl) .nil))) (impl_FindSpec_w p2)) <|
    sc rfl (op_fieldV Spec.fld0 rfl rfl kG88_0 (tp rfl)) <|
    sc rfl (oA rfl (tp rfl)) <| .nil) [7] rfl (fun a4 w4 st4 => ?_)
  refine st4.sq0 (
    sc rfl (oM rfl (tp rfl)) <|
    sc rfl (oCI rfl (tp rfl) cI) <|
    sc rfl (oM rfl (tp rfl)) <|
    sg rfl rfl (fun hg => oM rfl (tp rfl)) <|
    sg rfl rfl (fun hg => oCI rfl (opd_g hg rfl) cI) <|
    sc rfl (op_or rfl (tp rfl) (opd_tmp rfl)) <|
    sc rfl (oA rfl (tp rfl)) <| .nil) [6] rfl (fun a5 w5 st5 => ?_)
  refine wp_ret ?_
  exact st5.ret rfl rfl h3

def m_impl_KidsOf_s0 (x2 : Str) (v14 : List Str) (s17 : (List Str) × Int) : Option (((List Str) × Int) ⊕ (List Str)) :=
if (cmpI .lss s17.2 (v14.length : Int)) = true then (Option.bind (α := (List Str)) ((atI v14 s17.2).bind fun v23 =>
(m_impl_ParentOf v23).bind fun v26 =>
if (decide (v26 = x2)) = true then ((m_impl_LastOf v23).bind fun v31 =>
(appO 16 s17.1 ([v31] : List Str)).bind fun v36 =>
some v36)
else (some s17.1)) fun o22 =>
(i64 (s17.2 + (1 : Int))).bind fun v40 =>
some (.inl (o22, v40)))
else (some (.inr s17.1))

def m_impl_KidsOf (x0 : Tree) (x1 : List Int) (x2 : Str) : Option (List Str) :=
(m_impl_ValidTree x0).bind fun v3 =>
(gO ((!v3) == false) (m_impl_ValidPath x1)).bind fun v4 =>
(gO ((((!v3) || (!v4)) == false) && (decide (x2 ≠ (⟨[]⟩ : Str)) == true)) (m_impl_IsPackage x0 x1 x2)).bind fun v5 =>
if (((!v3) || (!v4)) || (decide (x2 ≠ (⟨[]⟩ : Str)) && (!v5))) = true then (some [])
else (Option.bind (α := (List Str)) ((m_impl_FoundNames x0 x1).bind fun v14 =>
loopM (fun s17 => m_impl_KidsOf_s0 x2 v14 s17) ([], (0 : Int))) fun o13 =>
(m_impl_sorted o13).bind fun v48 =>
some v48)

theorem impl_KidsOf_w {x0 : Tree} {x1 : List Int} {x2 : Str} {r : List Str} (h : m_impl_KidsOf x0 x1 x2 = some r) : FnOwn Tryz.prog 27 [dt x0, dt x1, dt x2] 9 r := by
  unfold m_impl_KidsOf at h
  refine fnxO (fn := Tryz.f27) 1 Tryz.func27 rfl (of_decide_eq_true rfl) rfl (fun M w0 a0 st0 => ?_)
  refine st0.sq0 (
    sc rfl (op_box rfl (tp rfl)) <|
    sc rfl (oA rfl (opd_nilTip (α := Str) (e := 9))) <| .nil) [1, 2, 3] rfl (fun a1 w1 st1 => ?_)
  refine st1.sq (
    sc rfl (op_lit0 (α := Str) (e := 9) rfl kS47) <|
    sc rfl (oA rfl (tp rfl)) <| .nil) [1, 2, 3] rfl [(7, 0)] rfl ⟨fun _ h => (by cases h), trivial⟩ (fun a2 w2 st2 => ?_)
  refine wp_seq ?_
  obtain ⟨v3, p3, h6⟩ := bs h
  obtain ⟨v4, p4, h7⟩ := bs h6
  obtain ⟨v5, p5, h8⟩ := bs h7
  refine st2.sq (
    sc rfl (op_load rfl kT30 (tp rfl)) <|
    sc rfl (op_call (l := [.tmp 11]) rfl kN29 (.cons (tp rfl) .nil) (impl_ValidTree_w p3)) <|
    sc rfl (op_not rfl (tp rfl)) <|
    sc rfl (oM rfl (tp rfl)) <|
    sg rfl rfl (fun hg => oM rfl (tp rfl)) <|
    sg rfl rfl (fun hg => op_call (l := [.tmp 15]) rfl kN30 (.cons (opd_g hg rfl) .nil) (impl_ValidPath_w (gh hg p4))) <|
    sg rfl rfl (fun hg => op_not rfl (opd_g hg rfl)) <|
    sc rfl (op_or rfl (tp rfl) (opd_tmp rfl)) <|
    sc rfl (oM rfl (tp rfl)) <|
    sg rfl rfl (fun hg => oM rfl (tp rfl)) <|
    sg rfl rfl (fun hg => op_neS rfl (opd_g hg rfl) (opd_str (by decide))) <|
    sg rfl rfl (fun hg => oM rfl (opd_g hg rfl)) <|
    sgg rfl rfl (fun hg => op_load rfl kT30 (tp rfl)) <|
    sgg rfl rfl (fun hg => oM rfl (tp rfl)) <|
    sgg rfl rfl (fun hg => oM rfl (tp rfl)) <|
    sgg rfl rfl (fun hg => op_call (l := [.tmp 23, .tmp 24, .tmp 25]) rfl kN31 (.cons (opd_g hg rfl) (.cons (opd_g hg rfl) (.cons (opd_g hg rfl) .nil))) (impl_IsPackage_w (gh hg p5))) <|
    sgg rfl rfl (fun hg => op_not rfl (opd_g hg rfl)) <|
    sg rfl rfl (fun hg => op_and rfl (opd_g hg rfl) (opd_gg hg rfl)) <|
    sc rfl (op_or rfl (tp rfl) (opd_tmp rfl)) <| .nil) [1, 2, 3, 29] rfl [(7, 0)] rfl ⟨fun _ h => (by cases h), trivial⟩ (fun a9 w9 st9 => ?_)
  refine st9.cs (c := 29) rfl h8 (fun c10 h10 => ?_) (fun c11 h11 => ?_)
  ·
    refine st9.sq (
      sc rfl (oM rfl (tp rfl)) <|
      sc rfl (oA rfl (tp rfl)) <| .nil) [] rfl [(6, 0)] rfl ⟨fun _ h => (by cases h), trivial⟩ (fun a12 w12 st12 => ?_)
    refine wp_ret (thn_ret ?_)
    exact st12.ret_own 0 rfl rfl (fun _ h => (by cases h)) h10
  ·
    refine wp_skip ?_
    refine then_normal ?_
    obtain ⟨o13, p13, k13⟩ := bs h11
    refine wp_seq_join (fun a w => ∃ M1 q13_0, Sx (Frm.of w0) 51 M M1 [oneB q13_0] [] [(7, 0, dtip q13_0 9 o13)] a w) ?_ ?_
    ·
      obtain ⟨v14, p14, h15⟩ := bs p13
      refine st9.sq (
        sc rfl (op_load rfl kT30 (tp rfl)) <|
        sc rfl (oM rfl (tp rfl)) <|
        sc rfl (op_call (l := [.tmp 31, .tmp 32]) rfl kN32 (.cons (tp rfl) (.cons (tp rfl) .nil)) ((impl_FoundNames_w p14)).fn) <|
        sc rfl (op_lenL rfl kL47 (tp rfl)) <|
        sc rfl (oM rfl cI) <| .nil) [2, 33, 34, 35] rfl [(7, 0)] rfl ⟨fun _ h => (by cases h), trivial⟩ (fun a16 w16 st16 => ?_)
      refine wp_block ?_
      refine loop_model h15 (fun s17 a w => ∃ M1 q17_0, Sx (Frm.of w0) 51 M M1 [oneB q17_0] [(2, dt x2), (33, dt v14), (34, dt (v14.length : Int)), (35, dt s17.2)] [(7, 0, dtip q17_0 9 s17.1)] a w) ⟨_, _, st16.sel [2, 33, 34, 35] rfl [(7, 0)] rfl ⟨fun _ h => (by cases h), trivial⟩⟩ ?_
      rintro s17 x17 a17 w17 ⟨M17, q17_0, st17⟩ hs17 hx17
      have h18 : m_impl_KidsOf_s0 x2 v14 s17 = some x17 := hs17
      unfold m_impl_KidsOf_s0 at h18
      refine st17.sq (
          sc rfl (oCI rfl (tp rfl) (tp rfl)) <| .nil) [2, 33, 34, 35, 36] rfl [(7, 0)] rfl ⟨fun _ h => h, trivial⟩ (fun a19 w19 st19 => ?_)
      refine wp_seq ?_
      refine st19.cs (c := 36) rfl h18 (fun c20 h20 => ?_) (fun c21 h21 => ?_)
      ·
        refine wp_skip ?_
        refine then_normal ?_
        obtain ⟨o22, p22, k22⟩ := bs h20
        refine wp_seq_join (fun a w => ∃ M1 q22_0, Sx (Frm.of w0) 51 M M1 [oneB q22_0] [(2, dt x2), (33, dt v14), (34, dt (v14.length : Int)), (35, dt s17.2)] [(7, 0, dtip q22_0 9 o22)] a w) ?_ ?_
        ·
          refine wp_block ?_
          obtain ⟨v23, p23, h24⟩ := bs p22
          refine st19.sq (
              sc rfl (xIdx rfl kS47 (tp rfl) (tp rfl) p23) <|
              sc rfl (op_load rfl kT9 (tp rfl)) <|
              sc rfl (oA rfl (tp rfl)) <| .nil) [2, 9, 33, 34, 35] rfl [(7, 0)] rfl ⟨fun _ h => h, trivial⟩ (fun a25 w25 st25 => ?_)
          obtain ⟨v26, p26, h27⟩ := bs h24
          refine st25.sq (
              sc rfl (oM rfl (tp rfl)) <|
              sc rfl (op_call (l := [.tmp 39]) rfl kN33 (.cons (tp rfl) .nil) (impl_ParentOf_w p26)) <|
              sc rfl (oM rfl (tp rfl)) <|
              sc rfl (op_eqS rfl (tp rfl) (tp rfl)) <| .nil) [2, 9, 33, 34, 35, 42] rfl [(7, 0)] rfl ⟨fun _ h => h, trivial⟩ (fun a28 w28 st28 => ?_)
          refine st28.cs (c := 42) rfl h27 (fun c29 h29 => ?_) (fun c30 h30 => ?_)
          ·
            refine wp_region_list ?_
            obtain ⟨v31, p31, h32⟩ := bs h29
            refine st28.seg 4 (
                sc rfl (oM rfl (tp rfl)) <|
                sc rfl (oM rfl (tp rfl)) <|
                sc rfl (op_call (l := [.tmp 44]) rfl kN35 (.cons (tp rfl) .nil) (impl_LastOf_w p31)) <|
                sc rfl (op_lit (opds := [.tmp 45]) rfl kS47 kY47 rfl rfl (by decide) (.cons (tp rfl) .nil)) <| .nil) [2, 33, 34, 35, 46] rfl [(7, 0), (43, 0)] rfl ⟨fun _ h => h, ⟨fun _ h => h, trivial⟩⟩ (fun a33 w33 st33 => ?_)
            obtain ⟨v36, p36, h37⟩ := bs h32
            refine st33.app 0 rfl rfl kE47 rfl rfl rfl row_dt p36 [2, 33, 34, 35] rfl [] rfl rfl (fun g35 M35 a35 w35 st35 => ?_)
            refine st35.seg 1 (
                sc rfl (oA rfl (tp rfl)) <| .nil) [2, 33, 34, 35] rfl [(7, 0)] rfl ⟨fun _ h => h, trivial⟩ (fun a38 w38 st38 => ?_)
            refine wpList_nil ?_
            refine blk_normal ?_
            refine then_normal ?_
            obtain rfl := Option.some.inj h37
            exact ⟨_, _, st38.sel [2, 33, 34, 35] rfl [(7, 0)] rfl ⟨fun _ h => h, trivial⟩⟩
          ·
            refine wp_skip ?_
            refine blk_normal ?_
            refine then_normal ?_
            obtain rfl := Option.some.inj h30
            exact ⟨_, _, st28.sel [2, 33, 34, 35] rfl [(7, 0)] rfl ⟨fun _ h => h, trivial⟩⟩
        · rintro a22 w22 ⟨M22, q22_0, st22⟩
          have h39 := k22
          obtain ⟨v40, p40, h41⟩ := bs h39
          refine st22.rg (
              sc rfl (xAr rfl (tp rfl) cI p40) <|
              sc rfl (oM rfl (tp rfl)) <| .nil) [2, 33, 34, 35] rfl [(7, 0)] rfl ⟨fun _ h => h, trivial⟩ (fun a42 w42 st42 => ?_)
          refine then_normal ?_
          exact ⟨_, (Option.some.inj h41).symm, ⟨_, _, st42.sel [2, 33, 34, 35] rfl [(7, 0)] rfl ⟨fun _ h => h, trivial⟩⟩⟩
      ·
        refine wp_exit (thn_exit (thn_exit (exit_here ?_)))
        refine then_normal ?_
        have h43 := lo h21 hx17
        obtain rfl := Option.some.inj h43
        exact ⟨_, _, st19.sel [] rfl [(7, 0)] rfl ⟨fun _ h => h, trivial⟩⟩
    · rintro a13 w13 ⟨M13, q13_0, st13⟩
      have h44 := k13
      refine wp_seq ?_
      refine wp_region_list ?_
      refine st13.seg 1 (
        sc rfl (oM rfl (tp rfl)) <| .nil) [] rfl [(49, 0)] rfl ⟨fun _ h => h, trivial⟩ (fun a45 w45 st45 => ?_)
      obtain ⟨v48, p48, h49⟩ := bs h44
      refine st45.take (l := []) 0 rfl rfl kN81 rfl rfl .nil (impl_sorted_w p48) [] rfl [] rfl rfl (fun g47 M47 a47 w47 st47 => ?_)
      refine st47.seg 1 (
        sc rfl (oA rfl (tp rfl)) <| .nil) [] rfl [(6, 0)] rfl ⟨fun _ h => h, trivial⟩ (fun a50 w50 st50 => ?_)
      refine wpList_nil ?_
      refine then_normal ?_
      refine wp_ret ?_
      exact st50.ret_own 0 rfl rfl (fun _ h => h) h49

def m_spec_IsPackage (x0 : Tree) (x1 : List Int) (x2 : Str) : Option Bool :=
(m_spec_validTree x0).bind fun v2 =>
(gO ((!v2) == false) (m_spec_validPath x1)).bind fun v3 =>
(gO (((!v2) || (!v3)) == false) (m_spec_validName x2)).bind fun v4 =>
if (((!v2) || (!v3)) || (!v4)) = true then (some false)
else ((m_spec_find x0 x1 x2).bind fun v12 =>
some (cmpI .eql v12.kind (2 : Int) || cmpI .eql v12.kind (3 : Int)))

theorem spec_IsPackage_w {x0 : Tree} {x1 : List Int} {x2 : Str} {r : Bool} (h : m_spec_IsPackage x0 x1 x2 = some r) : Fn Tryz.prog 82 [dt x0, dt x1, dt x2] (dt r) := by
  unfold m_spec_IsPackage at h
  refine fnx (fn := Tryz.f82) 0 Tryz.func82 rfl (of_decide_eq_true rfl) rfl (fun M w0 a0 st0 => ?_)
  refine st0.sq0 (
    sc rfl (op_box rfl (tp rfl)) <|
    sc rfl (oA rfl cB) <| .nil) [1, 2, 3] rfl (fun a1 w1 st1 => ?_)
  refine wp_seq ?_
  obtain ⟨v2, p2, h5⟩ := bs h
  obtain ⟨v3, p3, h6⟩ := bs h5
  obtain ⟨v4, p4, h7⟩ := bs h6
  refine st1.sq0 (
    sc rfl (op_load rfl kT30 (tp rfl)) <|
    sc rfl (op_call (l := [.tmp 8]) rfl kN53 (.cons (tp rfl) .nil) (spec_validTree_w p2)) <|
    sc rfl (op_not rfl (tp rfl)) <|
    sc rfl (oM rfl (tp rfl)) <|
    sg rfl rfl (fun hg => oM rfl (tp rfl)) <|
    sg rfl rfl (fun hg => op_call (l := [.tmp 12]) rfl kN54 (.cons (opd_g hg rfl) .nil) (spec_validPath_w (gh hg p3))) <|
    sg rfl rfl (fun hg => op_not rfl (opd_g hg rfl)) <|
    sc rfl (op_or rfl (tp rfl) (opd_tmp rfl)) <|
    sc rfl (oM rfl (tp rfl)) <|
    sg rfl rfl (fun hg => oM rfl (tp rfl)) <|
    sg rfl rfl (fun hg => op_call (l := [.tmp 17]) rfl kN130 (.cons (opd_g hg rfl) .nil) (spec_validName_w (gh hg p4))) <|
    sg rfl rfl (fun hg => op_not rfl (opd_g hg rfl)) <|
    sc rfl (op_or rfl (tp rfl) (opd_tmp rfl)) <| .nil) [1, 2, 3, 20] rfl (fun a8 w8 st8 => ?_)
  refine st8.cs (c := 20) rfl h7 (fun c9 h9 => ?_) (fun c10 h10 => ?_)
  ·
    refine st8.sq0 (
      sc rfl (oA rfl cB) <| .nil) [6] rfl (fun a11 w11 st11 => ?_)
    refine wp_ret (thn_ret ?_)
    exact st11.ret rfl rfl h9
  ·
    refine wp_skip ?_
    refine then_normal ?_
    obtain ⟨v12, p12, h13⟩ := bs h10
    refine st8.sq0 (
      sc rfl (op_load rfl kT30 (tp rfl)) <|
      sc rfl (oM rfl (tp rfl)) <|
      sc rfl (oM rfl (tp rfl)) <|
      sc rfl (op_call (l := [.tmp 21, .tmp 22, .tmp 23]) rfl kN58 (.cons (tp rfl) (.cons (tp rfl) (.cons (tp rfl) .nil))) (spec_find_w p12)) <|
      sc rfl (op_fieldV Spec.fld0 rfl rfl kG88_0 (tp rfl)) <|
      sc rfl (oA rfl (tp rfl)) <| .nil) [7] rfl (fun a14 w14 st14 => ?_)
    refine st14.sq0 (
      sc rfl (oM rfl (tp rfl)) <|
      sc rfl (oCI rfl (tp rfl) cI) <|
      sc rfl (oM rfl (tp rfl)) <|
      sg rfl rfl (fun hg => oM rfl (tp rfl)) <|
      sg rfl rfl (fun hg => oCI rfl (opd_g hg rfl) cI) <|
      sc rfl (op_or rfl (tp rfl) (opd_tmp rfl)) <|
      sc rfl (oA rfl (tp rfl)) <| .nil) [6] rfl (fun a15 w15 st15 => ?_)
    refine wp_ret ?_
    exact st15.ret rfl rfl h13

def m_spec_KidsOf_s0 (x0 : Tree) (x1 : List Int) (x2 : Str) (v13 : List Str) (s18 : (List Str) × Int) : Option (((List Str) × Int) ⊕ (List Str)) :=
if (cmpI .lss s18.2 (v13.length : Int)) = true then (Option.bind (α := (List Str)) ((atI v13 s18.2).bind fun v24 =>
(m_spec_parent v24).bind fun v25 =>
(gO (decide (v25 = x2) == true) (atI v13 s18.2)).bind fun v26 =>
(gO (decide (v25 = x2) == true) (m_spec_find x0 x1 v26)).bind fun v27 =>
if (decide (v25 = x2) && cmpI .neq v27.kind (0 : Int)) = true then ((atI v13 s18.2).bind fun v35 =>
(m_spec_last v35).bind fun v36 =>
(m_spec_insertText s18.1 v36).bind fun v42 =>
some v42)
else (some s18.1)) fun o23 =>
(i64 (s18.2 + (1 : Int))).bind fun v46 =>
some (.inl (o23, v46)))
else (some (.inr s18.1))

def m_spec_KidsOf (x0 : Tree) (x1 : List Int) (x2 : Str) : Option (List Str) :=
(m_spec_validTree x0).bind fun v2 =>
(gO ((!v2) == false) (m_spec_validPath x1)).bind fun v3 =>
(gO ((((!v2) || (!v3)) == false) && (decide (x2 ≠ (⟨[]⟩ : Str)) == true)) (m_spec_IsPackage x0 x1 x2)).bind fun v4 =>
if (((!v2) || (!v3)) || (decide (x2 ≠ (⟨[]⟩ : Str)) && (!v4))) = true then (some [])
else ((m_spec_names x0).bind fun v13 =>
Option.bind (α := (List Str)) (loopM (fun s18 => m_spec_KidsOf_s0 x0 x1 x2 v13 s18) ([], (0 : Int))) fun o16 =>
some o16)

theorem spec_KidsOf_w {x0 : Tree} {x1 : List Int} {x2 : Str} {r : List Str} (h : m_spec_KidsOf x0 x1 x2 = some r) : FnOwn Tryz.prog 28 [dt x0, dt x1, dt x2] 9 r := by
  unfold m_spec_KidsOf at h
  refine fnxO (fn := Tryz.f28) 1 Tryz.func28 rfl (of_decide_eq_true rfl) rfl (fun M w0 a0 st0 => ?_)
  refine st0.sq0 (
    sc rfl (op_box rfl (tp rfl)) <|
    sc rfl (oA rfl (opd_nilTip (α := Str) (e := 9))) <| .nil) [1, 2, 3] rfl (fun a1 w1 st1 => ?_)
  refine wp_seq ?_
  obtain ⟨v2, p2, h5⟩ := bs h
  obtain ⟨v3, p3, h6⟩ := bs h5
  obtain ⟨v4, p4, h7⟩ := bs h6
  refine st1.sq0 (
    sc rfl (op_load rfl kT30 (tp rfl)) <|
    sc rfl (op_call (l := [.tmp 10]) rfl kN53 (.cons (tp rfl) .nil) (spec_validTree_w p2)) <|
    sc rfl (op_not rfl (tp rfl)) <|
    sc rfl (oM rfl (tp rfl)) <|
    sg rfl rfl (fun hg => oM rfl (tp rfl)) <|
    sg rfl rfl (fun hg => op_call (l := [.tmp 14]) rfl kN54 (.cons (opd_g hg rfl) .nil) (spec_validPath_w (gh hg p3))) <|
    sg rfl rfl (fun hg => op_not rfl (opd_g hg rfl)) <|
    sc rfl (op_or rfl (tp rfl) (opd_tmp rfl)) <|
    sc rfl (oM rfl (tp rfl)) <|
    sg rfl rfl (fun hg => oM rfl (tp rfl)) <|
    sg rfl rfl (fun hg => op_neS rfl (opd_g hg rfl) (opd_str (by decide))) <|
    sg rfl rfl (fun hg => oM rfl (opd_g hg rfl)) <|
    sgg rfl rfl (fun hg => op_load rfl kT30 (tp rfl)) <|
    sgg rfl rfl (fun hg => oM rfl (tp rfl)) <|
    sgg rfl rfl (fun hg => oM rfl (tp rfl)) <|
    sgg rfl rfl (fun hg => op_call (l := [.tmp 22, .tmp 23, .tmp 24]) rfl kN82 (.cons (opd_g hg rfl) (.cons (opd_g hg rfl) (.cons (opd_g hg rfl) .nil))) (spec_IsPackage_w (gh hg p4))) <|
    sgg rfl rfl (fun hg => op_not rfl (opd_g hg rfl)) <|
    sg rfl rfl (fun hg => op_and rfl (opd_g hg rfl) (opd_gg hg rfl)) <|
    sc rfl (op_or rfl (tp rfl) (opd_tmp rfl)) <| .nil) [1, 2, 3, 28] rfl (fun a8 w8 st8 => ?_)
  refine st8.cs (c := 28) rfl h7 (fun c9 h9 => ?_) (fun c10 h10 => ?_)
  ·
    refine st8.sq (
      sc rfl (oA rfl (opd_nilTip (α := Str) (e := 9))) <| .nil) [] rfl [(6, 0)] rfl ⟨fun _ h => (by cases h), trivial⟩ (fun a11 w11 st11 => ?_)
    refine wp_ret (thn_ret ?_)
    exact st11.ret_own 0 rfl rfl (fun _ h => (by cases h)) h9
  ·
    refine wp_skip ?_
    refine then_normal ?_
    refine st8.sq (
      sc rfl (op_lit0 (α := Str) (e := 9) rfl kS47) <|
      sc rfl (oA rfl (tp rfl)) <| .nil) [1, 2, 3] rfl [(7, 0)] rfl ⟨fun _ h => (by cases h), trivial⟩ (fun a12 w12 st12 => ?_)
    obtain ⟨v13, p13, h14⟩ := bs h10
    refine st12.sq (
      sc rfl (op_load rfl kT30 (tp rfl)) <|
      sc rfl (op_call (l := [.tmp 30]) rfl kN55 (.cons (tp rfl) .nil) ((spec_names_w p13)).fn) <|
      sc rfl (oA rfl (tp rfl)) <| .nil) [1, 2, 3, 8] rfl [(7, 0)] rfl ⟨fun _ h => (by cases h), trivial⟩ (fun a15 w15 st15 => ?_)
    obtain ⟨o16, p16, k16⟩ := bs h14
    refine wp_seq_join (fun a w => ∃ M1 q16_0, Sx (Frm.of w0) 64 M M1 [oneB q16_0] [] [(7, 0, dtip q16_0 9 o16)] a w) ?_ ?_
    ·
      refine st15.sq (
        sc rfl (oA rfl cI) <| .nil) [1, 2, 3, 8, 9] rfl [(7, 0)] rfl ⟨fun _ h => (by cases h), trivial⟩ (fun a17 w17 st17 => ?_)
      refine wp_block ?_
      refine loop_model p16 (fun s18 a w => ∃ M1 q18_0, Sx (Frm.of w0) 64 M M1 [oneB q18_0] [(1, dt x1), (2, dt x2), (3, dptr x0), (8, dt v13), (9, dt s18.2)] [(7, 0, dtip q18_0 9 s18.1)] a w) ⟨_, _, st17.sel [1, 2, 3, 8, 9] rfl [(7, 0)] rfl ⟨fun _ h => (by cases h), trivial⟩⟩ ?_
      rintro s18 x18 a18 w18 ⟨M18, q18_0, st18⟩ hs18 hx18
      have h19 : m_spec_KidsOf_s0 x0 x1 x2 v13 s18 = some x18 := hs18
      unfold m_spec_KidsOf_s0 at h19
      refine wp_seq ?_
      refine st18.sq (
          sc rfl (oM rfl (tp rfl)) <|
          sc rfl (oM rfl (tp rfl)) <|
          sc rfl (op_lenL rfl kL47 (tp rfl)) <|
          sc rfl (oCI rfl (tp rfl) (tp rfl)) <| .nil) [1, 2, 3, 8, 9, 35] rfl [(7, 0)] rfl ⟨fun _ h => h, trivial⟩ (fun a20 w20 st20 => ?_)
      refine st20.cs (c := 35) rfl h19 (fun c21 h21 => ?_) (fun c22 h22 => ?_)
      ·
        refine wp_skip ?_
        refine then_normal ?_
        obtain ⟨o23, p23, k23⟩ := bs h21
        refine wp_seq_join (fun a w => ∃ M1 q23_0, Sx (Frm.of w0) 64 M M1 [oneB q23_0] [(1, dt x1), (2, dt x2), (3, dptr x0), (8, dt v13), (9, dt s18.2)] [(7, 0, dtip q23_0 9 o23)] a w) ?_ ?_
        ·
          refine wp_block ?_
          refine wp_seq ?_
          obtain ⟨v24, p24, h28⟩ := bs p23
          obtain ⟨v25, p25, h29⟩ := bs h28
          obtain ⟨v26, p26, h30⟩ := bs h29
          obtain ⟨v27, p27, h31⟩ := bs h30
          refine st20.dr (D := [_, _, _, _, _, _, _, _, _, _, _, _, _, _, _, _, _, _]) Tryz_mixed [[], [], [0, 1], [0, 1, 2], [0, 1, 2, 3], [], [0, 1, 2, 3, 4, 5], [0, 1, 2, 3, 4, 5, 6], [0, 1, 2, 3, 4, 5, 6, 7], [0, 1, 2, 3, 4, 5, 6, 7], [0, 1, 2, 3, 4, 5, 6, 7], [0, 1, 2, 3, 4, 5, 6, 7], [0, 1, 2, 3, 4, 5, 6, 7, 10, 11], [0, 1, 2, 3, 4, 5, 6, 7, 10, 11, 12], [0, 1, 2, 3, 4, 5, 6, 7, 8, 9, 10, 11, 12, 13], [0, 1, 2, 3, 4, 5, 6, 7, 8, 9, 10, 11, 12, 13, 14], [0, 1, 2, 3, 4, 5, 6, 7, 8, 9, 10, 11, 12, 13, 14, 15], [0, 1, 2, 3, 4, 5, 6, 7, 8, 9, 10, 11, 12, 13, 14, 15, 16]] [[(8, none)], [(9, none)], [(38, some 0), (39, some 1)], [(40, some 2)], [(41, some 3)], [(2, none)], [(42, some 4), (43, some 5)], [(44, some 6)], [(3, none), (45, some 7)], [(1, none), (45, some 7)], [(8, none), (45, some 7)], [(9, none), (45, some 7)], [(48, some 10), (49, some 11), (45, some 7)], [(50, some 12), (45, some 7)], [(46, some 8), (47, some 9), (51, some 13), (45, some 7)], [(52, some 14), (45, some 7)], [(53, some 15), (45, some 7)], [(45, some 7), (54, some 16)]] (by decide +kernel) (
            rc rfl rfl (oM rfl (tp rfl)) <|
              rc rfl rfl (oM rfl (tp rfl)) <|
              rc rfl rfl (xIdx rfl kS47 (tp rfl) (tp rfl) p24) <|
              rc rfl rfl (op_load rfl kT9 (tp rfl)) <|
              rc rfl rfl (op_call (l := [.tmp 41]) rfl kN83 (.cons (tp rfl) .nil) (spec_parent_w p25)) <|
              rc rfl rfl (oM rfl (tp rfl)) <|
              rc rfl rfl (op_eqS rfl (tp rfl) (tp rfl)) <|
              rc rfl rfl (oM rfl (tp rfl)) <|
              rg rfl rfl rfl (fun hg => op_load rfl kT30 (tp rfl)) <|
              rg rfl rfl rfl (fun hg => oM rfl (tp rfl)) <|
              rg rfl rfl rfl (fun hg => oM rfl (tp rfl)) <|
              rg rfl rfl rfl (fun hg => oM rfl (tp rfl)) <|
              rg rfl rfl rfl (fun hg => xIdx rfl kS47 (opd_g hg rfl) (opd_g hg rfl) (gh hg p26)) <|
              rg rfl rfl rfl (fun hg => op_load rfl kT9 (opd_g hg rfl)) <|
              rg rfl rfl rfl (fun hg => op_call (l := [.tmp 46, .tmp 47, .tmp 51]) rfl kN58 (.cons (opd_g hg rfl) (.cons (opd_g hg rfl) (.cons (opd_g hg rfl) .nil))) (spec_find_w (gh hg p27))) <|
              rg rfl rfl rfl (fun hg => op_fieldV Spec.fld0 rfl rfl kG88_0 (opd_g hg rfl)) <|
              rg rfl rfl rfl (fun hg => oCI rfl (opd_g hg rfl) cI) <|
              rc rfl rfl (op_and rfl (tp rfl) (opd_tmp rfl)) <| .nil) [1, 2, 3, 8, 9, 55] rfl [(7, 0)] rfl ⟨fun _ h => h, trivial⟩ (fun a32 w32 st32 => ?_)
          refine then_normal ?_
          refine st32.cs (c := 55) rfl h31 (fun c33 h33 => ?_) (fun c34 h34 => ?_)
          ·
            refine wp_region_list ?_
            obtain ⟨v35, p35, h37⟩ := bs h33
            obtain ⟨v36, p36, h38⟩ := bs h37
            refine st32.seg 6 (
                sc rfl (oM rfl (tp rfl)) <|
                sc rfl (oM rfl (tp rfl)) <|
                sc rfl (oM rfl (tp rfl)) <|
                sc rfl (xIdx rfl kS47 (tp rfl) (tp rfl) p35) <|
                sc rfl (op_load rfl kT9 (tp rfl)) <|
                sc rfl (op_call (l := [.tmp 60]) rfl kN84 (.cons (tp rfl) .nil) (spec_last_w p36)) <| .nil) [1, 2, 3, 8, 9, 61] rfl [(7, 0), (56, 0)] rfl ⟨fun _ h => h, ⟨fun _ h => h, trivial⟩⟩ (fun a39 w39 st39 => ?_)
            obtain ⟨v42, p42, h43⟩ := bs h38
            refine st39.take (l := [.tmp 61]) 0 rfl rfl kN56 rfl rfl (.cons (tp rfl) .nil) (spec_insertText_w p42) [1, 2, 3, 8, 9] rfl [] rfl rfl (fun g41 M41 a41 w41 st41 => ?_)
            refine st41.seg 1 (
                sc rfl (oA rfl (tp rfl)) <| .nil) [1, 2, 3, 8, 9] rfl [(7, 0)] rfl ⟨fun _ h => h, trivial⟩ (fun a44 w44 st44 => ?_)
            refine wpList_nil ?_
            refine blk_normal ?_
            refine then_normal ?_
            obtain rfl := Option.some.inj h43
            exact ⟨_, _, st44.sel [1, 2, 3, 8, 9] rfl [(7, 0)] rfl ⟨fun _ h => h, trivial⟩⟩
          ·
            refine wp_skip ?_
            refine blk_normal ?_
            refine then_normal ?_
            obtain rfl := Option.some.inj h34
            exact ⟨_, _, st32.sel [1, 2, 3, 8, 9] rfl [(7, 0)] rfl ⟨fun _ h => h, trivial⟩⟩
        · rintro a23 w23 ⟨M23, q23_0, st23⟩
          have h45 := k23
          obtain ⟨v46, p46, h47⟩ := bs h45
          refine st23.rg (
              sc rfl (oM rfl (tp rfl)) <|
              sc rfl (xAr rfl (tp rfl) cI p46) <|
              sc rfl (oA rfl (tp rfl)) <| .nil) [1, 2, 3, 8, 9] rfl [(7, 0)] rfl ⟨fun _ h => h, trivial⟩ (fun a48 w48 st48 => ?_)
          refine then_normal ?_
          exact ⟨_, (Option.some.inj h47).symm, ⟨_, _, st48.sel [1, 2, 3, 8, 9] rfl [(7, 0)] rfl ⟨fun _ h => h, trivial⟩⟩⟩
      ·
        refine wp_exit (thn_exit (thn_exit (exit_here ?_)))
        refine then_normal ?_
        have h49 := lo h22 hx18
        obtain rfl := Option.some.inj h49
        exact ⟨_, _, st20.sel [] rfl [(7, 0)] rfl ⟨fun _ h => h, trivial⟩⟩
    · rintro a16 w16 ⟨M16, q16_0, st16⟩
      have h50 := k16
      refine st16.sq (
        sc rfl (oM rfl (tp rfl)) <|
        sc rfl (oA rfl (tp rfl)) <| .nil) [] rfl [(6, 0)] rfl ⟨fun _ h => h, trivial⟩ (fun a51 w51 st51 => ?_)
      refine wp_ret ?_
      exact st51.ret_own 0 rfl rfl (fun _ h => h) h50

def m_laws_textAt_s0 (x0 : List Str) (x1 : Str) (s4 : Int) : Option (Int ⊕ (Unit ⊕ Int)) :=
if (cmpI .lss s4 (x0.length : Int)) = true then ((atI x0 s4).bind fun v9 =>
if (decide (v9 = x1)) = true then (some (.inr (.inr s4)))
else ((i64 (s4 + (1 : Int))).bind fun v17 =>
some (.inl v17)))
else (some (.inr (.inl ())))

def m_laws_textAt (x0 : List Str) (x1 : Str) : Option Int :=
Option.bind (α := Unit ⊕ Int) (loopM (fun s4 => m_laws_textAt_s0 x0 x1 s4) (0 : Int)) (Sum.elim (fun b2 =>
some (-1 : Int)) some)

theorem laws_textAt_w {x0 : List Str} {x1 : Str} {r : Int} (h : m_laws_textAt x0 x1 = some r) : Fn Tryz.prog 91 [dt x0, dt x1] (dt r) := by
  unfold m_laws_textAt at h
  refine fnx (fn := Tryz.f91) 0 Tryz.func91 rfl (of_decide_eq_true rfl) rfl (fun M w0 a0 st0 => ?_)
  refine st0.sq0 (
    sc rfl (oA rfl cI) <| .nil) [0, 1] rfl (fun a1 w1 st1 => ?_)
  obtain ⟨o2, p2, k2⟩ := bs h
  refine wp_seq_join (fun a w => ∃ b2, o2 = .inl b2 ∧ Sx (Frm.of w0) 19 M M [] [] [] a w) ?_ ?_
  ·
    refine st1.sq0 (
      sc rfl (oA rfl cI) <| .nil) [0, 1, 5] rfl (fun a3 w3 st3 => ?_)
    refine wp_block ?_
    refine loop_model p2 (fun s4 a w => Sx (Frm.of w0) 19 M M [] [(0, dt x0), (1, dt x1), (5, dt s4)] [] a w) (st3.sel0 [0, 1, 5] rfl) ?_
    rintro s4 x4 a4 w4 st4 hs4 hx4
    have h5 : m_laws_textAt_s0 x0 x1 s4 = some x4 := hs4
    unfold m_laws_textAt_s0 at h5
    refine wp_seq ?_
    refine st4.sq0 (
        sc rfl (oM rfl (tp rfl)) <|
        sc rfl (oM rfl (tp rfl)) <|
        sc rfl (op_lenL rfl kL47 (tp rfl)) <|
        sc rfl (oCI rfl (tp rfl) (tp rfl)) <| .nil) [0, 1, 5, 9] rfl (fun a6 w6 st6 => ?_)
    refine st6.cs (c := 9) rfl h5 (fun c7 h7 => ?_) (fun c8 h8 => ?_)
    ·
      refine wp_skip ?_
      refine then_normal ?_
      refine wp_seq ?_
      refine wp_block ?_
      obtain ⟨v9, p9, h10⟩ := bs h7
      refine st6.sq0 (
          sc rfl (oM rfl (tp rfl)) <|
          sc rfl (oM rfl (tp rfl)) <|
          sc rfl (xIdx rfl kS47 (tp rfl) (tp rfl) p9) <|
          sc rfl (op_load rfl kT9 (tp rfl)) <|
          sc rfl (oM rfl (tp rfl)) <|
          sc rfl (op_eqS rfl (tp rfl) (tp rfl)) <| .nil) [0, 1, 5, 17] rfl (fun a11 w11 st11 => ?_)
      refine st11.cs (c := 17) rfl h10 (fun c12 h12 => ?_) (fun c13 h13 => ?_)
      ·
        refine st11.sq0 (
            sc rfl (oM rfl (tp rfl)) <|
            sc rfl (oA rfl (tp rfl)) <| .nil) [4] rfl (fun a14 w14 st14 => ?_)
        refine wp_ret (blk_ret (thn_ret (thn_ret (blk_ret (thn_ret ?_)))))
        have h15 := lo h12 hx4
        have h16 := jo h15 k2
        exact st14.ret rfl rfl h16
      ·
        refine wp_skip ?_
        refine blk_normal ?_
        refine then_normal ?_
        obtain ⟨v17, p17, h18⟩ := bs h13
        refine st11.rg0 (
            sc rfl (oM rfl (tp rfl)) <|
            sc rfl (xAr rfl (tp rfl) cI p17) <|
            sc rfl (oA rfl (tp rfl)) <| .nil) [0, 1, 5] rfl (fun a19 w19 st19 => ?_)
        refine then_normal ?_
        exact ⟨_, (Option.some.inj h18).symm, st19.sel0 [0, 1, 5] rfl⟩
    ·
      refine wp_exit (thn_exit (thn_exit (exit_here ?_)))
      refine then_normal ?_
      have h20 := lo h8 hx4
      exact ⟨_, (Option.some.inj h20).symm, st6.sel0 [] rfl⟩
  · rintro a2 w2 ⟨b2, rfl, st2⟩
    have h21 := jn k2
    refine st2.sq0 (
      sc rfl (oA rfl cI) <| .nil) [4] rfl (fun a22 w22 st22 => ?_)
    refine wp_ret ?_
    exact st22.ret rfl rfl h21

def m_laws_hasText (x0 : List Str) (x1 : Str) : Option Bool :=
(m_laws_textAt x0 x1).bind fun v2 =>
some (cmpI .geq v2 (0 : Int))

theorem laws_hasText_w {x0 : List Str} {x1 : Str} {r : Bool} (h : m_laws_hasText x0 x1 = some r) : Fn Tryz.prog 34 [dt x0, dt x1] (dt r) := by
  unfold m_laws_hasText at h
  refine fnx (fn := Tryz.f34) 0 Tryz.func34 rfl (of_decide_eq_true rfl) rfl (fun M w0 a0 st0 => ?_)
  refine st0.sq0 (
    sc rfl (oA rfl cB) <| .nil) [0, 1] rfl (fun a1 w1 st1 => ?_)
  obtain ⟨v2, p2, h3⟩ := bs h
  refine st1.sq0 (
    sc rfl (oM rfl (tp rfl)) <|
    sc rfl (oM rfl (tp rfl)) <|
    sc rfl (op_call (l := [.tmp 5, .tmp 6]) rfl kN91 (.cons (tp rfl) (.cons (tp rfl) .nil)) (laws_textAt_w p2)) <|
    sc rfl (oCI rfl (tp rfl) cI) <|
    sc rfl (oA rfl (tp rfl)) <| .nil) [4] rfl (fun a4 w4 st4 => ?_)
  refine wp_ret ?_
  exact st4.ret rfl rfl h3

def m_laws_rises_s0 (x0 : List Str) (s4 : Int) : Option (Int ⊕ (Unit ⊕ Bool)) :=
if (cmpI .lss s4 (x0.length : Int)) = true then ((atI x0 s4).bind fun v9 =>
(i64 (s4 - (1 : Int))).bind fun v10 =>
(atI x0 v10).bind fun v11 =>
if (cmpS .leq v9 v11) = true then (some (.inr (.inr false)))
else ((i64 (s4 + (1 : Int))).bind fun v21 =>
some (.inl v21)))
else (some (.inr (.inl ())))

def m_laws_rises (x0 : List Str) : Option Bool :=
Option.bind (α := Unit ⊕ Bool) (loopM (fun s4 => m_laws_rises_s0 x0 s4) (1 : Int)) (Sum.elim (fun b2 =>
some true) some)

theorem laws_rises_w {x0 : List Str} {r : Bool} (h : m_laws_rises x0 = some r) : Fn Tryz.prog 36 [dt x0] (dt r) := by
  unfold m_laws_rises at h
  refine fnx (fn := Tryz.f36) 0 Tryz.func36 rfl (of_decide_eq_true rfl) rfl (fun M w0 a0 st0 => ?_)
  refine st0.sq0 (
    sc rfl (oA rfl cB) <| .nil) [0] rfl (fun a1 w1 st1 => ?_)
  obtain ⟨o2, p2, k2⟩ := bs h
  refine wp_seq_join (fun a w => ∃ b2, o2 = .inl b2 ∧ Sx (Frm.of w0) 20 M M [] [] [] a w) ?_ ?_
  ·
    refine st1.sq0 (
      sc rfl (oA rfl cI) <| .nil) [0, 3] rfl (fun a3 w3 st3 => ?_)
    refine wp_block ?_
    refine loop_model p2 (fun s4 a w => Sx (Frm.of w0) 20 M M [] [(0, dt x0), (3, dt s4)] [] a w) (st3.sel0 [0, 3] rfl) ?_
    rintro s4 x4 a4 w4 st4 hs4 hx4
    have h5 : m_laws_rises_s0 x0 s4 = some x4 := hs4
    unfold m_laws_rises_s0 at h5
    refine wp_seq ?_
    refine st4.sq0 (
        sc rfl (oM rfl (tp rfl)) <|
        sc rfl (oM rfl (tp rfl)) <|
        sc rfl (op_lenL rfl kL47 (tp rfl)) <|
        sc rfl (oCI rfl (tp rfl) (tp rfl)) <| .nil) [0, 3, 7] rfl (fun a6 w6 st6 => ?_)
    refine st6.cs (c := 7) rfl h5 (fun c7 h7 => ?_) (fun c8 h8 => ?_)
    ·
      refine wp_skip ?_
      refine then_normal ?_
      refine wp_seq ?_
      refine wp_block ?_
      refine wp_seq ?_
      obtain ⟨v9, p9, h12⟩ := bs h7
      obtain ⟨v10, p10, h13⟩ := bs h12
      obtain ⟨v11, p11, h14⟩ := bs h13
      refine st6.dr (D := [_, _, _, _, _, _, _, _, _, _]) Tryz_mixed [[], [], [0, 1], [0, 1, 2], [], [], [5], [4, 5, 6], [4, 5, 6, 7], [0, 1, 2, 3, 4, 5, 6, 7, 8]] [[(0, none)], [(3, none)], [(10, some 0), (11, some 1)], [(12, some 2)], [(0, none)], [(3, none)], [(15, some 5)], [(14, some 4), (16, some 6)], [(17, some 7)], [(13, some 3), (18, some 8)]] (by decide +kernel) (
        rc rfl rfl (oM rfl (tp rfl)) <|
          rc rfl rfl (oM rfl (tp rfl)) <|
          rc rfl rfl (xIdx rfl kS47 (tp rfl) (tp rfl) p9) <|
          rc rfl rfl (op_load rfl kT9 (tp rfl)) <|
          rc rfl rfl (oM rfl (tp rfl)) <|
          rc rfl rfl (oM rfl (tp rfl)) <|
          rc rfl rfl (xAr rfl (tp rfl) cI p10) <|
          rc rfl rfl (xIdx rfl kS47 (tp rfl) (tp rfl) p11) <|
          rc rfl rfl (op_load rfl kT9 (tp rfl)) <|
          rc rfl rfl (oCS rfl (tp rfl) (tp rfl)) <| .nil) [0, 3, 19] rfl [] rfl trivial (fun a15 w15 st15 => ?_)
      refine then_normal ?_
      refine st15.cs (c := 19) rfl h14 (fun c16 h16 => ?_) (fun c17 h17 => ?_)
      ·
        refine st15.sq0 (
            sc rfl (oA rfl cB) <| .nil) [2] rfl (fun a18 w18 st18 => ?_)
        refine wp_ret (blk_ret (thn_ret (thn_ret (blk_ret (thn_ret ?_)))))
        have h19 := lo h16 hx4
        have h20 := jo h19 k2
        exact st18.ret rfl rfl h20
      ·
        refine wp_skip ?_
        refine blk_normal ?_
        refine then_normal ?_
        obtain ⟨v21, p21, h22⟩ := bs h17
        refine st15.rg0 (
            sc rfl (oM rfl (tp rfl)) <|
            sc rfl (xAr rfl (tp rfl) cI p21) <|
            sc rfl (oA rfl (tp rfl)) <| .nil) [0, 3] rfl (fun a23 w23 st23 => ?_)
        refine then_normal ?_
        exact ⟨_, (Option.some.inj h22).symm, st23.sel0 [0, 3] rfl⟩
    ·
      refine wp_exit (thn_exit (thn_exit (exit_here ?_)))
      refine then_normal ?_
      have h24 := lo h8 hx4
      exact ⟨_, (Option.some.inj h24).symm, st6.sel0 [] rfl⟩
  · rintro a2 w2 ⟨b2, rfl, st2⟩
    have h25 := jn k2
    refine st2.sq0 (
      sc rfl (oA rfl cB) <| .nil) [2] rfl (fun a26 w26 st26 => ?_)
    refine wp_ret ?_
    exact st26.ret rfl rfl h25

end Go.Proofs.YtionokffhhiicaaGreatDoor

namespace Go.Proofs.YtionokffhhiicaaGreatDoor
open Go.RowKit
set_option maxRecDepth 10000
set_option maxHeartbeats 1600000

theorem kN125 : fnB Tryz.prog 125 = true := by kernel_rfl

def m_spec_anyTree (x0 : Reader) : Option (Reader × Tree) :=
(m_spec_someTree x0).bind fun v6 =>
Option.bind (α := Reader × Tree) (if (cmpI .gtr (v6.2.files.length : Int) (0 : Int)) = true then ((m_spec_reader_pick v6.1 (24 : Int)).bind fun v21 =>
if (cmpI .eql v21.2 (0 : Int)) = true then ((atI v6.2.files (0 : Int)).bind fun v31 =>
(appO 80 v6.2.files ([v31] : List File)).bind fun v39 =>
some (v21.1, (⟨v39⟩ : Tree)))
else (if (cmpI .eql v21.2 (1 : Int)) = true then ((m_spec_reader_one v21.1 ([(-1 : Int), (3 : Int)] : List Int)).bind fun v59 =>
(atI v6.2.files (0 : Int)).bind fun v62 =>
some (v59.1, (⟨(v6.2.files.set (0 : Int).toNat ({ v62 with root := v59.2 }))⟩ : Tree)))
else (if (cmpI .eql v21.2 (2 : Int)) = true then ((m_spec_reader_one v21.1 ([(-1 : Int), (100 : Int)] : List Int)).bind fun v101 =>
(atI v6.2.files (0 : Int)).bind fun v104 =>
some (v101.1, (⟨(v6.2.files.set (0 : Int).toNat ({ v104 with stamp := v101.2 }))⟩ : Tree)))
else (if (cmpI .eql v21.2 (3 : Int)) = true then ((atI v6.2.files (0 : Int)).bind fun v142 =>
(appO 56 v142.body ([(⟨(9 : Int), ⟨[]⟩, 0, ⟨[]⟩, 0⟩ : Stmt)] : List Stmt)).bind fun v154 =>
(atI v6.2.files (0 : Int)).bind fun v157 =>
some (v21.1, (⟨(v6.2.files.set (0 : Int).toNat ({ v142 with body := v154 }))⟩ : Tree)))
else (some (v21.1, v6.2))))))
else (some (v6.1, v6.2))) fun o13 =>
some (o13.1, o13.2)

theorem spec_anyTree_w {x0 : Reader} {r : Reader × Tree} (h : m_spec_anyTree x0 = some r) : FnS Tryz.prog 78 (Ow.box (Ow.frz (α := Reader))) ⟨x0⟩ [] ⟨r.1⟩ (.frz (dt r.2)) := by
  unfold m_spec_anyTree at h
  refine fnSB (fn := Tryz.f78) 4 9 Tryz.func78 rfl (of_decide_eq_true rfl) rfl (fun M G w0 b0 a0 st0 => ?_)
  refine wp_seq ?_
  refine wp_region_list ?_
  refine st0.alloc 7 rfl rfl kZ30 zrTree (by simp) [] rfl [0] rfl rfl (fun b2 M2 a2 w2 st2 => ?_)
  have st3 := st2.gs (Gs' := [oneB none, oneB none, oneB none, oneB none, G, oneB none, oneB none, oneB (some b2), oneB none]) rfl
  refine wpList_nil ?_
  refine then_normal ?_
  refine wp_seq ?_
  refine wp_region_list ?_
  refine st3.seg 1 (
    sc rfl (oM rfl (tp rfl)) <| .nil) [] rfl [(0, 4), (2, 7), (4, 4)] rfl ⟨fun _ h => h, ⟨fun _ h => h, ⟨fun _ h => h, trivial⟩⟩⟩ (fun a4 w4 st4 => ?_)
  obtain ⟨v6, p6, h7⟩ := bs h
  refine st4.cSO (l := []) 4 0 (st4.bkN (s := 0) rfl (fun _ h => h)) rfl rfl kN125 ((st4.st.has 4 _ rfl).1.trans (st4.st.has 0 _ rfl).1.symm) (by simp) (by simp) (by decide) .nil (spec_someTree_w p6) [] rfl [2] rfl rfl rfl rfl (by decide) (fun G5 H5 M5 a5 w5 st5 => ?_)
  have st8 := st5.gs (Gs' := [H5, oneB none, oneB none, oneB none, G5, oneB none, oneB none, oneB (some b2), oneB none]) rfl
  refine st8.alcW (ow := (owTree (Ow.row 94 (owFile (Ow.row 140 (Ow.frz (α := Stmt))))))) 8 rfl rfl kZ30 (owTree.z Ow.row_z) (by simp) [] rfl [0, 2, 5] rfl rfl (fun b9 M9 a9 w9 st9 => ?_)
  have st10 := st9.gs (Gs' := [H5, oneB none, oneB none, oneB none, G5, oneB none, oneB none, oneB (some b2), (oneB (some b9))]) rfl
  refine st10.stO (sb := 3) (tv := 5) 8 0 (PV.root.box rfl) rfl rfl rfl kT30 (by simp) (by simp) (by decide) (opd_nm rfl) rfl rfl rfl (fun _ h => h) (fun _ h => h) [] rfl [0, 2] rfl rfl rfl (fun G11 w11 st11 => ?_)
  have st12 := st11.gs (Gs' := [oneB none, oneB none, oneB none, oneB none, G5, oneB none, oneB none, oneB (some b2), G11]) rfl
  refine wpList_nil ?_
  refine then_normal ?_
  obtain ⟨o13, p13, k13⟩ := bs h7
  refine wp_seq_join (fun a w => ∃ M1 q13_0 q13_1 q13_2 q13_3 q13_4 q13_5 q13_6 q13_7 q13_8, Sx (Frm.chg w0 G) 56 M M1 [q13_0, q13_1, q13_2, q13_3, q13_4, q13_5, q13_6, oneB q13_7, q13_8] [(3, dptr o13.2)] [(2, 7, dbox q13_7 0 zTree), (0, 4, dnm (Ow.box (Ow.frz (α := Reader))) q13_4 ⟨o13.1⟩ (.pointer (some ⟨b0, 0, none⟩)) [])] a w) ?_ ?_
  ·
    refine st12.hdR (s := 3) 8 true (fun _ => ((PV.root.box rfl).fld owTree.f0)) rfl rfl (fun _ h => h) [0, 2] rfl (fun g14 A14 c14 hA14 st14 => ?_)
    refine st14.sq (
      sc rfl (xFa rfl kF30_0 (opd_nm rfl)) <|
      sc rfl (xLc (sb := 3) (.head _) rfl rfl rfl kT28 (tp rfl) rfl) <|
      sc rfl (xLe rfl kL28 (tp rfl)) <|
      sc rfl (oCI rfl (tp rfl) cI) <| .nil) [9] rfl [(0, 4), (2, 7), (3, 8)] rfl ⟨fun _ h => h, ⟨fun _ h => h, ⟨fun _ h => h, trivial⟩⟩⟩ (fun a15 w15 st15 => ?_)
    have st16 := st15.ncf (s := 3) 8 rfl rfl (fun _ h => h) [0, 2] rfl
    refine st16.cs (c := 9) rfl p13 (fun c17 h17 => ?_) (fun c18 h18 => ?_)
    ·
      refine wp_seq ?_
      refine wp_region_list ?_
      refine st16.seg 1 (
        sc rfl (oM rfl (tp rfl)) <| .nil) [] rfl [(0, 4), (2, 7), (3, 8), (10, 4)] rfl ⟨fun _ h => h, ⟨fun _ h => h, ⟨fun _ h => h, ⟨fun _ h => h, trivial⟩⟩⟩⟩ (fun a19 w19 st19 => ?_)
      obtain ⟨v21, p21, h22⟩ := bs h17
      refine st19.cSF (l := [.const (.int .i64 24)]) 4 (st19.bkN (s := 0) rfl (fun _ h => h)) rfl rfl kN116 ((st19.st.has 10 _ rfl).1.trans (st19.st.has 0 _ rfl).1.symm) (by simp) (.cons cI .nil) (spec_reader_pick_w p21) [] rfl [2, 3] rfl rfl (by decide) (fun G20 M20 a20 w20 st20 => ?_)
      have st23 := st20.gs (Gs' := [oneB none, oneB none, oneB none, oneB none, G20, oneB none, oneB none, oneB (some b2), G11]) rfl
      refine wpList_nil ?_
      refine then_normal ?_
      refine wp_block ?_
      refine st23.sq (
        sc rfl (oCI rfl (tp rfl) cI) <|
        sc rfl (oA rfl (tp rfl)) <| .nil) [11, 12] rfl [(0, 4), (2, 7), (3, 8)] rfl ⟨fun _ h => h, ⟨fun _ h => h, ⟨fun _ h => h, trivial⟩⟩⟩ (fun a24 w24 st24 => ?_)
      refine st24.cs (c := 12) rfl h22 (fun c25 h25 => ?_) (fun c26 h26 => ?_)
      ·
        have st27 := st24.unm (s := 3) 8 rfl rfl (fun _ h => h) [0, 2] rfl
        refine st27.thin (s := 3) (o2 := (Ow.box (owTree (Ow.row 94 (Ow.frz (α := File)))))) 8 (thin_box (thin_via thin_row)) rfl rfl (by simp) (fun _ h => h) [11, 12] rfl [0, 2] rfl rfl (fun G28 M28 st28 => ?_)
        obtain ⟨v31, p31, h32⟩ := bs h25
        refine st28.nmB (s := 3) 8 rfl rfl (fun _ h => h) [0, 2] rfl (fun b29 st29 => ?_)
        refine st29.hdR (s := 3) 8 true (fun _ => ((PV.root.box rfl).fld owTree.f0)) rfl rfl (fun _ h => h) [0, 2] rfl (fun g30 A30 c30 hA30 st30 => ?_)
        refine st30.drn (D := [_, _, _, _, _, _, _]) Tryz_mixed 7 [[], [0], [], [2], [2, 3], [2, 3, 4], [2, 3, 4, 5], [0, 1, 2, 3, 4, 5, 6], [0, 1, 2, 3, 4, 5, 6, 7], [0, 1, 2, 3, 4, 5, 6, 7, 8]] [[(3, none)], [(14, some 0), (3, none)], [(3, none)], [(16, some 2), (3, none)], [(17, some 3)], [(18, some 4), (3, none)], [(19, some 5)], [(15, some 1), (20, some 6)], [(3, none)], [(22, some 8), (21, some 7)]] (by decide +kernel) (by decide) (
          rc rfl rfl (xFa rfl kF30_0 (opd_nm rfl)) <|
          rc rfl rfl (xLc (sb := 3) (.head _) rfl rfl rfl kT28 (tp rfl) rfl) <|
          rc rfl rfl (xFa rfl kF30_0 (opd_nm rfl)) <|
          rc rfl rfl (xLc (sb := 3) (.head _) rfl rfl rfl kT28 (tp rfl) rfl) <|
          rc rfl rfl (xIa (g := g30) rfl kS28 (tp rfl) cI rfl (fun h => hA30 h rfl) p31) <|
          rc rfl rfl (xLf (sb := 3) (((PV.root.box rfl).fld owTree.f0).row (.head _) rfl (fun h => hA30 h rfl) p31) rfl kT94 (tp rfl) rfl) <|
          rc rfl rfl (op_lit (opds := [.tmp 19]) rfl kS28 kY28 rfl rfl (by decide) (.cons (tp rfl) .nil)) <| .nil) [15, 20] rfl [(0, 4), (2, 7), (3, 8)] rfl ⟨fun _ h => h, ⟨fun _ h => h, ⟨fun _ h => h, trivial⟩⟩⟩ (fun a33 w33 st33 => ?_)
        refine st33.mvG (s := 15) (sb := 3) 8 1 ((PV.root.box rfl).fld owTree.f0) (.head _) rfl (fits_one rfl rfl) rfl (by simp) (by simp) (by decide) rfl (fun _ h => h) [20] rfl [0, 2] rfl rfl rfl rfl (fun G35 H35 st35 => ?_)
        have st36 := st35.gs (Gs' := [oneB none, H35, oneB none, oneB none, G20, oneB none, oneB none, oneB (some b2), G35]) rfl
        refine st36.tipR (s := 15) 1 rfl rfl (by simp) (fun _ h => h) [0, 2, 3] rfl rfl (fun g37 st37 => ?_)
        obtain ⟨v39, p39, h40⟩ := bs h32
        refine st37.app 1 rfl rfl kE28 rfl rfl rfl row_dt p39 [] rfl [0, 2, 3] rfl rfl (fun g38 M38 a38 w38 st38 => ?_)
        have st41 := st38.gs (Gs' := [oneB none, oneB g38, oneB none, oneB none, G20, oneB none, oneB none, oneB (some b2), G35]) rfl
        refine st41.seg 1 (
          sc rfl (xFa rfl kF30_0 (opd_hl rfl)) <| .nil) [22] rfl [(0, 4), (2, 7), (3, 8), (21, 1)] rfl ⟨fun _ h => h, ⟨fun _ h => h, ⟨fun _ h => h, ⟨fun _ h => h, trivial⟩⟩⟩⟩ (fun a42 w42 st42 => ?_)
        have st44 := st42.tipW (s := 21) 1 rfl rfl (fun _ h => h) [0, 2, 3] rfl
        refine st44.stH (sb := 3) (tv := 21) 8 1 rfl rfl rfl kT28 (by simp) (by simp) (by decide) (tp rfl) rfl rfl (fun _ h => h) (fun _ h => h) [] rfl [0, 2] rfl rfl rfl (fun G43 w43 st43 => ?_)
        have st45 := st43.gs (Gs' := [oneB none, oneB none, oneB none, oneB none, G20, oneB none, oneB none, oneB (some b2), G43]) rfl
        refine wpList_nil ?_
        refine blk_normal ?_
        have st46 := st45.unm (s := 3) 8 rfl rfl (fun _ h => h) [0, 2] rfl
        have st47 := st46.frzB (s := 3) 8 rfl (by simp) (fun _ h => h) [] rfl [0, 2] rfl rfl
        refine then_normal ?_
        obtain rfl := Option.some.inj h40
        exact ⟨_, _, _, _, _, _, _, _, _, _, st47.sel [3] rfl [(2, 7), (0, 4)] rfl ⟨fun _ h => h, ⟨fun _ h => h, trivial⟩⟩⟩
      ·
        refine st24.sq (
          sc rfl (oCI rfl (tp rfl) cI) <|
          sc rfl (oA rfl (tp rfl)) <| .nil) [11, 23] rfl [(0, 4), (2, 7), (3, 8)] rfl ⟨fun _ h => h, ⟨fun _ h => h, ⟨fun _ h => h, trivial⟩⟩⟩ (fun a48 w48 st48 => ?_)
        refine st48.cs (c := 23) rfl h26 (fun c49 h49 => ?_) (fun c50 h50 => ?_)
        ·
          refine st48.hdR (s := 3) 8 true (fun _ => ((PV.root.box rfl).fld owTree.f0)) rfl rfl (fun _ h => h) [0, 2] rfl (fun g51 A51 c51 hA51 st51 => ?_)
          refine st51.held (fun w => w.cell? ⟨b9, 0, none⟩ = some (.slice A51 (v6.2.files.length) c51)) Tryz_mixed (fun w52 st52 => ?_)
          refine st52.tk (i := 0) rfl rfl (by decide +kernel) (by decide +kernel) (by decide +kernel) (fun _ _ _ h => h) (st52.cellS (sb := 3) rfl (.head _) rfl rfl) (yFa rfl kF30_0 (st52.st.has 3 _ rfl).1) (fun a53 st53 => ?_)
          refine st53.tk (i := 1) rfl rfl (by decide +kernel) (by decide +kernel) (by decide +kernel) (fun _ _ _ h => h) (st53.cellS (sb := 3) rfl (.head _) rfl rfl) (yLd rfl kT28 (st53.st.has 25 _ rfl) (fun _ h => h)) (fun a54 st54 => ?_)
          refine st54.mvN (s := 26) (sb := 3) 8 2 ((PV.root.box rfl).fld owTree.f0) (.head _) rfl (fits_one rfl rfl) rfl rfl (by simp) (by simp) (by decide) rfl (fun _ h => h) [11, 23, 25] rfl [0, 2] rfl rfl rfl rfl (by decide) (fun G55 H55 st55 => ?_)
          obtain ⟨v59, p59, h66⟩ := bs h49
          obtain ⟨v62, p62, h67⟩ := bs h66
          refine aH2 (i := 2) (j := 3) (by decide +kernel) rfl rfl ?_ ?_
          ·
            refine st55.seg 1 (sc rfl (oM rfl (tp rfl)) <| .nil) [] rfl [(0, 4), (2, 7), (3, 8), (26, 2), (27, 4)] rfl ⟨fun _ h => h, ⟨fun _ h => h, ⟨fun _ h => h, ⟨fun _ h => h, ⟨fun _ h => h, trivial⟩⟩⟩⟩⟩ (fun a68 w68 st68 => ?_)
            refine aHN (st68.hkS (sb := 3) rfl) ?_
            refine aH1 (i := 3) (by decide +kernel) rfl ?_
            refine st68.seg 1 (sc rfl (op_lit (opds := [.const (.int .i64 (-1)), .const (.int .i64 3)]) rfl kS25 kY25 rfl rfl (by decide) (.cons cI (.cons cI .nil))) <| .nil) [28] rfl [(0, 4), (2, 7), (3, 8), (26, 2), (27, 4)] rfl ⟨fun _ h => h, ⟨fun _ h => h, ⟨fun _ h => h, ⟨fun _ h => h, ⟨fun _ h => h, trivial⟩⟩⟩⟩⟩ (fun a69 w69 st69 => ?_)
            refine aHN (st69.hkS (sb := 3) rfl) ?_
            refine aH1 (i := 4) (by decide +kernel) rfl ?_
            refine st69.cSF (l := [.tmp 28]) 4 (st69.bkN (s := 0) rfl (fun _ h => h)) rfl rfl kN117 ((st69.st.has 27 _ rfl).1.trans (st69.st.has 0 _ rfl).1.symm) (by simp) (.cons (tp rfl) .nil) (spec_reader_one_w p59) [] rfl [2, 3, 26] rfl rfl (by decide) (fun G70 M70 a70 w70 st70 => ?_)
            have st71 := st70.gs (Gs' := [oneB none, oneB none, H55, oneB none, G70, oneB none, oneB none, oneB (some b2), G55]) rfl
            refine aHN (st71.hkS (sb := 3) rfl) ?_
            refine aH1 (i := 5) (by decide +kernel) rfl ?_
            refine st71.seg 1 (sc rfl (xIaN rfl kS28 rfl cI (fun h => hA51 h rfl) p62) <| .nil) [29, 30] rfl [(0, 4), (2, 7), (3, 8), (26, 2)] rfl ⟨fun _ h => h, ⟨fun _ h => h, ⟨fun _ h => h, ⟨fun _ h => h, trivial⟩⟩⟩⟩ (fun a72 w72 st72 => ?_)
            refine aHN (st72.hkS (sb := 3) rfl) ?_
            refine aH1 (i := 6) (by decide +kernel) rfl ?_
            refine st72.seg 1 (sc rfl (xFa rfl kF94_0 (tp rfl)) <| .nil) [29, 31] rfl [(0, 4), (2, 7), (3, 8), (26, 2)] rfl ⟨fun _ h => h, ⟨fun _ h => h, ⟨fun _ h => h, ⟨fun _ h => h, trivial⟩⟩⟩⟩ (fun a73 w73 st73 => ?_)
            refine aHN (st73.hkS (sb := 3) rfl) ?_
            refine aH1 (i := 7) (by decide +kernel) rfl ?_
            refine st73.stF (sb := 26) 2 ((PV.root.row rfl (fun h => hA51 h rfl) p62).fld owFile.f0) rfl rfl rfl kT3 (by simp) (tp rfl) (tp rfl) rfl rfl (fun _ h => h) [] rfl [0, 2, 3] rfl rfl (fun w74 st74 => ?_)
            refine aHN (st74.hkS (sb := 3) rfl) ?_
            refine aH0 (by decide +kernel) ?_
            refine st74.stG (s := 26) (sb := 3) 8 2 rfl (by simp) (by simp) (by decide) rfl rfl (fun _ h => h) (fun _ h => h) [] rfl [0, 2] rfl rfl rfl (fun G75 st75 => ?_)
            have st76 := st75.gs (Gs' := [oneB none, oneB none, oneB none, oneB none, G70, oneB none, oneB none, oneB (some b2), G75]) rfl
            refine blk_normal ?_
            have st77 := st76.unm (s := 3) 8 rfl rfl (fun _ h => h) [0, 2] rfl
            have st78 := st77.frzB (s := 3) 8 rfl (by simp) (fun _ h => h) [] rfl [0, 2] rfl rfl
            refine then_normal ?_
            obtain rfl := Option.some.inj h67
            exact ⟨_, _, _, _, _, _, _, _, _, _, st78.sel [3] rfl [(2, 7), (0, 4)] rfl ⟨fun _ h => h, ⟨fun _ h => h, trivial⟩⟩⟩
          ·
            refine st55.seg 1 (sc rfl (op_lit (opds := [.const (.int .i64 (-1)), .const (.int .i64 3)]) rfl kS25 kY25 rfl rfl (by decide) (.cons cI (.cons cI .nil))) <| .nil) [28] rfl [(0, 4), (2, 7), (3, 8), (26, 2)] rfl ⟨fun _ h => h, ⟨fun _ h => h, ⟨fun _ h => h, ⟨fun _ h => h, trivial⟩⟩⟩⟩ (fun a79 w79 st79 => ?_)
            refine aHN (st79.hkS (sb := 3) rfl) ?_
            refine aH1 (i := 2) (by decide +kernel) rfl ?_
            refine st79.seg 1 (sc rfl (oM rfl (tp rfl)) <| .nil) [28] rfl [(0, 4), (2, 7), (3, 8), (26, 2), (27, 4)] rfl ⟨fun _ h => h, ⟨fun _ h => h, ⟨fun _ h => h, ⟨fun _ h => h, ⟨fun _ h => h, trivial⟩⟩⟩⟩⟩ (fun a80 w80 st80 => ?_)
            refine aHN (st80.hkS (sb := 3) rfl) ?_
            refine aH1 (i := 4) (by decide +kernel) rfl ?_
            refine st80.cSF (l := [.tmp 28]) 4 (st80.bkN (s := 0) rfl (fun _ h => h)) rfl rfl kN117 ((st80.st.has 27 _ rfl).1.trans (st80.st.has 0 _ rfl).1.symm) (by simp) (.cons (tp rfl) .nil) (spec_reader_one_w p59) [] rfl [2, 3, 26] rfl rfl (by decide) (fun G81 M81 a81 w81 st81 => ?_)
            have st82 := st81.gs (Gs' := [oneB none, oneB none, H55, oneB none, G81, oneB none, oneB none, oneB (some b2), G55]) rfl
            refine aHN (st82.hkS (sb := 3) rfl) ?_
            refine aH1 (i := 5) (by decide +kernel) rfl ?_
            refine st82.seg 1 (sc rfl (xIaN rfl kS28 rfl cI (fun h => hA51 h rfl) p62) <| .nil) [29, 30] rfl [(0, 4), (2, 7), (3, 8), (26, 2)] rfl ⟨fun _ h => h, ⟨fun _ h => h, ⟨fun _ h => h, ⟨fun _ h => h, trivial⟩⟩⟩⟩ (fun a83 w83 st83 => ?_)
            refine aHN (st83.hkS (sb := 3) rfl) ?_
            refine aH1 (i := 6) (by decide +kernel) rfl ?_
            refine st83.seg 1 (sc rfl (xFa rfl kF94_0 (tp rfl)) <| .nil) [29, 31] rfl [(0, 4), (2, 7), (3, 8), (26, 2)] rfl ⟨fun _ h => h, ⟨fun _ h => h, ⟨fun _ h => h, ⟨fun _ h => h, trivial⟩⟩⟩⟩ (fun a84 w84 st84 => ?_)
            refine aHN (st84.hkS (sb := 3) rfl) ?_
            refine aH1 (i := 7) (by decide +kernel) rfl ?_
            refine st84.stF (sb := 26) 2 ((PV.root.row rfl (fun h => hA51 h rfl) p62).fld owFile.f0) rfl rfl rfl kT3 (by simp) (tp rfl) (tp rfl) rfl rfl (fun _ h => h) [] rfl [0, 2, 3] rfl rfl (fun w85 st85 => ?_)
            refine aHN (st85.hkS (sb := 3) rfl) ?_
            refine aH0 (by decide +kernel) ?_
            refine st85.stG (s := 26) (sb := 3) 8 2 rfl (by simp) (by simp) (by decide) rfl rfl (fun _ h => h) (fun _ h => h) [] rfl [0, 2] rfl rfl rfl (fun G86 st86 => ?_)
            have st87 := st86.gs (Gs' := [oneB none, oneB none, oneB none, oneB none, G81, oneB none, oneB none, oneB (some b2), G86]) rfl
            refine blk_normal ?_
            have st88 := st87.unm (s := 3) 8 rfl rfl (fun _ h => h) [0, 2] rfl
            have st89 := st88.frzB (s := 3) 8 rfl (by simp) (fun _ h => h) [] rfl [0, 2] rfl rfl
            refine then_normal ?_
            obtain rfl := Option.some.inj h67
            exact ⟨_, _, _, _, _, _, _, _, _, _, st89.sel [3] rfl [(2, 7), (0, 4)] rfl ⟨fun _ h => h, ⟨fun _ h => h, trivial⟩⟩⟩
        ·
          refine st48.sq (
            sc rfl (oCI rfl (tp rfl) cI) <|
            sc rfl (oA rfl (tp rfl)) <| .nil) [11, 32] rfl [(0, 4), (2, 7), (3, 8)] rfl ⟨fun _ h => h, ⟨fun _ h => h, ⟨fun _ h => h, trivial⟩⟩⟩ (fun a90 w90 st90 => ?_)
          refine st90.cs (c := 32) rfl h50 (fun c91 h91 => ?_) (fun c92 h92 => ?_)
          ·
            refine st90.hdR (s := 3) 8 true (fun _ => ((PV.root.box rfl).fld owTree.f0)) rfl rfl (fun _ h => h) [0, 2] rfl (fun g93 A93 c93 hA93 st93 => ?_)
            refine st93.held (fun w => w.cell? ⟨b9, 0, none⟩ = some (.slice A93 (v6.2.files.length) c93)) Tryz_mixed (fun w94 st94 => ?_)
            refine st94.tk (i := 0) rfl rfl (by decide +kernel) (by decide +kernel) (by decide +kernel) (fun _ _ _ h => h) (st94.cellS (sb := 3) rfl (.head _) rfl rfl) (yFa rfl kF30_0 (st94.st.has 3 _ rfl).1) (fun a95 st95 => ?_)
            refine st95.tk (i := 1) rfl rfl (by decide +kernel) (by decide +kernel) (by decide +kernel) (fun _ _ _ h => h) (st95.cellS (sb := 3) rfl (.head _) rfl rfl) (yLd rfl kT28 (st95.st.has 34 _ rfl) (fun _ h => h)) (fun a96 st96 => ?_)
            refine st96.mvN (s := 35) (sb := 3) 8 3 ((PV.root.box rfl).fld owTree.f0) (.head _) rfl (fits_one rfl rfl) rfl rfl (by simp) (by simp) (by decide) rfl (fun _ h => h) [11, 32, 34] rfl [0, 2] rfl rfl rfl rfl (by decide) (fun G97 H97 st97 => ?_)
            obtain ⟨v101, p101, h108⟩ := bs h91
            obtain ⟨v104, p104, h109⟩ := bs h108
            refine aH2 (i := 2) (j := 3) (by decide +kernel) rfl rfl ?_ ?_
            ·
              refine st97.seg 1 (sc rfl (oM rfl (tp rfl)) <| .nil) [] rfl [(0, 4), (2, 7), (3, 8), (35, 3), (36, 4)] rfl ⟨fun _ h => h, ⟨fun _ h => h, ⟨fun _ h => h, ⟨fun _ h => h, ⟨fun _ h => h, trivial⟩⟩⟩⟩⟩ (fun a110 w110 st110 => ?_)
              refine aHN (st110.hkS (sb := 3) rfl) ?_
              refine aH1 (i := 3) (by decide +kernel) rfl ?_
              refine st110.seg 1 (sc rfl (op_lit (opds := [.const (.int .i64 (-1)), .const (.int .i64 100)]) rfl kS25 kY25 rfl rfl (by decide) (.cons cI (.cons cI .nil))) <| .nil) [37] rfl [(0, 4), (2, 7), (3, 8), (35, 3), (36, 4)] rfl ⟨fun _ h => h, ⟨fun _ h => h, ⟨fun _ h => h, ⟨fun _ h => h, ⟨fun _ h => h, trivial⟩⟩⟩⟩⟩ (fun a111 w111 st111 => ?_)
              refine aHN (st111.hkS (sb := 3) rfl) ?_
              refine aH1 (i := 4) (by decide +kernel) rfl ?_
              refine st111.cSF (l := [.tmp 37]) 4 (st111.bkN (s := 0) rfl (fun _ h => h)) rfl rfl kN117 ((st111.st.has 36 _ rfl).1.trans (st111.st.has 0 _ rfl).1.symm) (by simp) (.cons (tp rfl) .nil) (spec_reader_one_w p101) [] rfl [2, 3, 35] rfl rfl (by decide) (fun G112 M112 a112 w112 st112 => ?_)
              have st113 := st112.gs (Gs' := [oneB none, oneB none, oneB none, H97, G112, oneB none, oneB none, oneB (some b2), G97]) rfl
              refine aHN (st113.hkS (sb := 3) rfl) ?_
              refine aH1 (i := 5) (by decide +kernel) rfl ?_
              refine st113.seg 1 (sc rfl (xIaN rfl kS28 rfl cI (fun h => hA93 h rfl) p104) <| .nil) [38, 39] rfl [(0, 4), (2, 7), (3, 8), (35, 3)] rfl ⟨fun _ h => h, ⟨fun _ h => h, ⟨fun _ h => h, ⟨fun _ h => h, trivial⟩⟩⟩⟩ (fun a114 w114 st114 => ?_)
              refine aHN (st114.hkS (sb := 3) rfl) ?_
              refine aH1 (i := 6) (by decide +kernel) rfl ?_
              refine st114.seg 1 (sc rfl (xFa rfl kF94_4 (tp rfl)) <| .nil) [38, 40] rfl [(0, 4), (2, 7), (3, 8), (35, 3)] rfl ⟨fun _ h => h, ⟨fun _ h => h, ⟨fun _ h => h, ⟨fun _ h => h, trivial⟩⟩⟩⟩ (fun a115 w115 st115 => ?_)
              refine aHN (st115.hkS (sb := 3) rfl) ?_
              refine aH1 (i := 7) (by decide +kernel) rfl ?_
              refine st115.stF (sb := 35) 3 ((PV.root.row rfl (fun h => hA93 h rfl) p104).fld owFile.f4) rfl rfl rfl kT3 (by simp) (tp rfl) (tp rfl) rfl rfl (fun _ h => h) [] rfl [0, 2, 3] rfl rfl (fun w116 st116 => ?_)
              refine aHN (st116.hkS (sb := 3) rfl) ?_
              refine aH0 (by decide +kernel) ?_
              refine st116.stG (s := 35) (sb := 3) 8 3 rfl (by simp) (by simp) (by decide) rfl rfl (fun _ h => h) (fun _ h => h) [] rfl [0, 2] rfl rfl rfl (fun G117 st117 => ?_)
              have st118 := st117.gs (Gs' := [oneB none, oneB none, oneB none, oneB none, G112, oneB none, oneB none, oneB (some b2), G117]) rfl
              refine blk_normal ?_
              have st119 := st118.unm (s := 3) 8 rfl rfl (fun _ h => h) [0, 2] rfl
              have st120 := st119.frzB (s := 3) 8 rfl (by simp) (fun _ h => h) [] rfl [0, 2] rfl rfl
              refine then_normal ?_
              obtain rfl := Option.some.inj h109
              exact ⟨_, _, _, _, _, _, _, _, _, _, st120.sel [3] rfl [(2, 7), (0, 4)] rfl ⟨fun _ h => h, ⟨fun _ h => h, trivial⟩⟩⟩
            ·
              refine st97.seg 1 (sc rfl (op_lit (opds := [.const (.int .i64 (-1)), .const (.int .i64 100)]) rfl kS25 kY25 rfl rfl (by decide) (.cons cI (.cons cI .nil))) <| .nil) [37] rfl [(0, 4), (2, 7), (3, 8), (35, 3)] rfl ⟨fun _ h => h, ⟨fun _ h => h, ⟨fun _ h => h, ⟨fun _ h => h, trivial⟩⟩⟩⟩ (fun a121 w121 st121 => ?_)
              refine aHN (st121.hkS (sb := 3) rfl) ?_
              refine aH1 (i := 2) (by decide +kernel) rfl ?_
              refine st121.seg 1 (sc rfl (oM rfl (tp rfl)) <| .nil) [37] rfl [(0, 4), (2, 7), (3, 8), (35, 3), (36, 4)] rfl ⟨fun _ h => h, ⟨fun _ h => h, ⟨fun _ h => h, ⟨fun _ h => h, ⟨fun _ h => h, trivial⟩⟩⟩⟩⟩ (fun a122 w122 st122 => ?_)
              refine aHN (st122.hkS (sb := 3) rfl) ?_
              refine aH1 (i := 4) (by decide +kernel) rfl ?_
              refine st122.cSF (l := [.tmp 37]) 4 (st122.bkN (s := 0) rfl (fun _ h => h)) rfl rfl kN117 ((st122.st.has 36 _ rfl).1.trans (st122.st.has 0 _ rfl).1.symm) (by simp) (.cons (tp rfl) .nil) (spec_reader_one_w p101) [] rfl [2, 3, 35] rfl rfl (by decide) (fun G123 M123 a123 w123 st123 => ?_)
              have st124 := st123.gs (Gs' := [oneB none, oneB none, oneB none, H97, G123, oneB none, oneB none, oneB (some b2), G97]) rfl
              refine aHN (st124.hkS (sb := 3) rfl) ?_
              refine aH1 (i := 5) (by decide +kernel) rfl ?_
              refine st124.seg 1 (sc rfl (xIaN rfl kS28 rfl cI (fun h => hA93 h rfl) p104) <| .nil) [38, 39] rfl [(0, 4), (2, 7), (3, 8), (35, 3)] rfl ⟨fun _ h => h, ⟨fun _ h => h, ⟨fun _ h => h, ⟨fun _ h => h, trivial⟩⟩⟩⟩ (fun a125 w125 st125 => ?_)
              refine aHN (st125.hkS (sb := 3) rfl) ?_
              refine aH1 (i := 6) (by decide +kernel) rfl ?_
              refine st125.seg 1 (sc rfl (xFa rfl kF94_4 (tp rfl)) <| .nil) [38, 40] rfl [(0, 4), (2, 7), (3, 8), (35, 3)] rfl ⟨fun _ h => h, ⟨fun _ h => h, ⟨fun _ h => h, ⟨fun _ h => h, trivial⟩⟩⟩⟩ (fun a126 w126 st126 => ?_)
              refine aHN (st126.hkS (sb := 3) rfl) ?_
              refine aH1 (i := 7) (by decide +kernel) rfl ?_
              refine st126.stF (sb := 35) 3 ((PV.root.row rfl (fun h => hA93 h rfl) p104).fld owFile.f4) rfl rfl rfl kT3 (by simp) (tp rfl) (tp rfl) rfl rfl (fun _ h => h) [] rfl [0, 2, 3] rfl rfl (fun w127 st127 => ?_)
              refine aHN (st127.hkS (sb := 3) rfl) ?_
              refine aH0 (by decide +kernel) ?_
              refine st127.stG (s := 35) (sb := 3) 8 3 rfl (by simp) (by simp) (by decide) rfl rfl (fun _ h => h) (fun _ h => h) [] rfl [0, 2] rfl rfl rfl (fun G128 st128 => ?_)
              have st129 := st128.gs (Gs' := [oneB none, oneB none, oneB none, oneB none, G123, oneB none, oneB none, oneB (some b2), G128]) rfl
              refine blk_normal ?_
              have st130 := st129.unm (s := 3) 8 rfl rfl (fun _ h => h) [0, 2] rfl
              have st131 := st130.frzB (s := 3) 8 rfl (by simp) (fun _ h => h) [] rfl [0, 2] rfl rfl
              refine then_normal ?_
              obtain rfl := Option.some.inj h109
              exact ⟨_, _, _, _, _, _, _, _, _, _, st131.sel [3] rfl [(2, 7), (0, 4)] rfl ⟨fun _ h => h, ⟨fun _ h => h, trivial⟩⟩⟩
          ·
            refine st90.sq (
              sc rfl (oCI rfl (tp rfl) cI) <|
              sc rfl (oA rfl (tp rfl)) <| .nil) [41] rfl [(0, 4), (2, 7), (3, 8)] rfl ⟨fun _ h => h, ⟨fun _ h => h, ⟨fun _ h => h, trivial⟩⟩⟩ (fun a132 w132 st132 => ?_)
            refine st132.cs (c := 41) rfl h92 (fun c133 h133 => ?_) (fun c134 h134 => ?_)
            ·
              refine st132.hdR (s := 3) 8 true (fun _ => ((PV.root.box rfl).fld owTree.f0)) rfl rfl (fun _ h => h) [0, 2] rfl (fun g135 A135 c135 hA135 st135 => ?_)
              refine st135.held (fun w => w.cell? ⟨b9, 0, none⟩ = some (.slice A135 (v6.2.files.length) c135)) Tryz_mixed (fun w136 st136 => ?_)
              refine st136.tk (i := 0) rfl rfl (by decide +kernel) (by decide +kernel) (by decide +kernel) (fun _ _ _ h => h) (st136.cellS (sb := 3) rfl (.head _) rfl rfl) (yFa rfl kF30_0 (st136.st.has 3 _ rfl).1) (fun a137 st137 => ?_)
              refine st137.tk (i := 1) rfl rfl (by decide +kernel) (by decide +kernel) (by decide +kernel) (fun _ _ _ h => h) (st137.cellS (sb := 3) rfl (.head _) rfl rfl) (yLd rfl kT28 (st137.st.has 43 _ rfl) (fun _ h => h)) (fun a138 st138 => ?_)
              refine st138.tk (i := 2) rfl rfl (by decide +kernel) (by decide +kernel) (by decide +kernel) (fun _ _ _ h => h) (st138.cellS (sb := 3) rfl (.head _) rfl rfl) (yFa rfl kF30_0 (st138.st.has 3 _ rfl).1) (fun a139 st139 => ?_)
              refine st139.tk (i := 3) rfl rfl (by decide +kernel) (by decide +kernel) (by decide +kernel) (fun _ _ _ h => h) (st139.cellS (sb := 3) rfl (.head _) rfl rfl) (yLd rfl kT28 (st139.st.has 45 _ rfl) (fun _ h => h)) (fun a140 st140 => ?_)
              refine st140.mvN (s := 46) (sb := 3) 8 5 ((PV.root.box rfl).fld owTree.f0) (.head _) rfl (fits_one rfl rfl) rfl rfl (by simp) (by simp) (by decide) rfl (fun _ h => h) [41, 43, 44, 45] rfl [0, 2] rfl rfl rfl rfl (by decide) (fun G141 H141 st141 => ?_)
              obtain ⟨v142, p142, h163⟩ := bs h133
              obtain ⟨v154, p154, h164⟩ := bs h163
              obtain ⟨v157, p157, h165⟩ := bs h164
              refine aH2 (i := 4) (j := 7) (by decide +kernel) rfl rfl ?_ ?_
              ·
                refine st141.seg 1 (sc rfl (xIaN rfl kS28 rfl cI (fun h => hA135 h rfl) p142) <| .nil) [44, 47] rfl [(0, 4), (2, 7), (3, 8), (46, 5)] rfl ⟨fun _ h => h, ⟨fun _ h => h, ⟨fun _ h => h, ⟨fun _ h => h, trivial⟩⟩⟩⟩ (fun a166 w166 st166 => ?_)
                refine aHN (st166.hkS (sb := 3) rfl) ?_
                refine aH2 (i := 5) (j := 7) (by decide +kernel) rfl rfl ?_ ?_
                ·
                  refine st166.seg 1 (sc rfl (xFa rfl kF94_5 (tp rfl)) <| .nil) [44, 48] rfl [(0, 4), (2, 7), (3, 8), (46, 5)] rfl ⟨fun _ h => h, ⟨fun _ h => h, ⟨fun _ h => h, ⟨fun _ h => h, trivial⟩⟩⟩⟩ (fun a167 w167 st167 => ?_)
                  refine aHN (st167.hkS (sb := 3) rfl) ?_
                  refine aH2 (i := 6) (j := 7) (by decide +kernel) rfl rfl ?_ ?_
                  ·
                    refine st167.hdR (s := 46) 5 true (fun _ => ((PV.root.row rfl (fun h => hA135 h rfl) p142).fld owFile.f5)) rfl rfl (fun _ h => h) [0, 2, 3] rfl (fun g168 A168 c168 hA168 st168 => ?_)
                    refine st168.seg 1 (sc rfl (xLc (sb := 46) (.head _) rfl rfl rfl kT92 (tp rfl) rfl) <| .nil) [44, 49] rfl [(0, 4), (2, 7), (3, 8), (46, 5)] rfl ⟨fun _ h => h, ⟨fun _ h => h, ⟨fun _ h => h, ⟨fun _ h => h, trivial⟩⟩⟩⟩ (fun a169 w169 st169 => ?_)
                    refine aHN (st169.hkS (sb := 3) rfl) ?_
                    refine aH1 (i := 7) (by decide +kernel) rfl ?_
                    refine st169.seg 1 (sc rfl (op_build (parts := [(0, .const (.int .i64 9))]) (ns := [1, 1, 1, 1, 1]) (zs := zpStmt) rfl rfl kB140 kC140 (fun w a hl => by
 intro p hp; simp only [List.mem_cons, List.not_mem_nil, or_false] at hp
 rcases hp with rfl
 · exact ⟨by decide, rfl⟩) (fun w a hl => Stmt.parts (x := (⟨(9 : Int), ⟨[]⟩, 0, ⟨[]⟩, 0⟩ : Stmt)) (OpdR.cells cI hl) zero_str ⟨rfl, trivial⟩ zero_str ⟨rfl, trivial⟩)) <| .nil) [44, 49, 50] rfl [(0, 4), (2, 7), (3, 8), (46, 5)] rfl ⟨fun _ h => h, ⟨fun _ h => h, ⟨fun _ h => h, ⟨fun _ h => h, trivial⟩⟩⟩⟩ (fun a170 w170 st170 => ?_)
                    refine aHN (st170.hkS (sb := 3) rfl) ?_
                    refine aH1 (i := 8) (by decide +kernel) rfl ?_
                    refine st170.seg 1 (sc rfl (op_lit (opds := [.tmp 50]) rfl kS92 kY92 rfl rfl (by decide) (.cons (tp rfl) .nil)) <| .nil) [44, 49, 51] rfl [(0, 4), (2, 7), (3, 8), (46, 5)] rfl ⟨fun _ h => h, ⟨fun _ h => h, ⟨fun _ h => h, ⟨fun _ h => h, trivial⟩⟩⟩⟩ (fun a171 w171 st171 => ?_)
                    refine aHN (st171.hkS (sb := 3) rfl) ?_
                    refine aH1 (i := 9) (by decide +kernel) rfl ?_
                    refine st171.mvG (s := 49) (sb := 46) 5 6 ((PV.root.row rfl (fun h => hA135 h rfl) p142).fld owFile.f5) (.head _) rfl (fits_one rfl rfl) rfl (by simp) (by simp) (by decide) rfl (fun _ h => h) [44, 51] rfl [0, 2, 3] rfl rfl rfl rfl (fun G173 H173 st173 => ?_)
                    have st174 := st173.gs (Gs' := [oneB none, oneB none, oneB none, oneB none, G20, G173, H173, oneB (some b2), G141]) rfl
                    refine st174.tipR (s := 49) 6 rfl rfl (by simp) (fun _ h => h) [0, 2, 3, 46] rfl rfl (fun g175 st175 => ?_)
                    refine st175.app 6 rfl rfl kE92 rfl rfl rfl row_dt p154 [44] rfl [0, 2, 3, 46] rfl rfl (fun g176 M176 a176 w176 st176 => ?_)
                    have st177 := st176.gs (Gs' := [oneB none, oneB none, oneB none, oneB none, G20, G173, oneB g176, oneB (some b2), G141]) rfl
                    refine aHN (st177.hkS (sb := 3) rfl) ?_
                    refine aH1 (i := 10) (by decide +kernel) rfl ?_
                    refine st177.seg 1 (sc rfl (xIa (g := g135) rfl kS28 (tp rfl) cI rfl (fun h => hA135 h rfl) p157) <| .nil) [53] rfl [(0, 4), (2, 7), (3, 8), (46, 5), (52, 6)] rfl ⟨fun _ h => h, ⟨fun _ h => h, ⟨fun _ h => h, ⟨fun _ h => h, ⟨fun _ h => h, trivial⟩⟩⟩⟩⟩ (fun a178 w178 st178 => ?_)
                    refine aHN (st178.hkS (sb := 3) rfl) ?_
                    refine aH1 (i := 11) (by decide +kernel) rfl ?_
                    refine st178.seg 1 (sc rfl (xFa rfl kF94_5 (tp rfl)) <| .nil) [54] rfl [(0, 4), (2, 7), (3, 8), (46, 5), (52, 6)] rfl ⟨fun _ h => h, ⟨fun _ h => h, ⟨fun _ h => h, ⟨fun _ h => h, ⟨fun _ h => h, trivial⟩⟩⟩⟩⟩ (fun a179 w179 st179 => ?_)
                    refine aHN (st179.hkS (sb := 3) rfl) ?_
                    refine aH1 (i := 12) (by decide +kernel) rfl ?_
                    have st181 := st179.tipW (s := 52) 6 rfl rfl (fun _ h => h) [0, 2, 3, 46] rfl
                    refine st181.stH (sb := 46) (tv := 52) 5 6 rfl rfl rfl kT92 (by simp) (by simp) (by decide) (tp rfl) rfl rfl (fun _ h => h) (fun _ h => h) [] rfl [0, 2, 3] rfl rfl rfl (fun G180 w180 st180 => ?_)
                    have st182 := st180.gs (Gs' := [oneB none, oneB none, oneB none, oneB none, G20, G180, oneB none, oneB (some b2), G141]) rfl
                    refine aHN (st182.hkS (sb := 3) rfl) ?_
                    refine aH0 (by decide +kernel) ?_
                    refine st182.stG (s := 46) (sb := 3) 8 5 rfl (by simp) (by simp) (by decide) rfl rfl (fun _ h => h) (fun _ h => h) [] rfl [0, 2] rfl rfl rfl (fun G183 st183 => ?_)
                    have st184 := st183.gs (Gs' := [oneB none, oneB none, oneB none, oneB none, G20, oneB none, oneB none, oneB (some b2), G183]) rfl
                    refine blk_normal ?_
                    have st185 := st184.unm (s := 3) 8 rfl rfl (fun _ h => h) [0, 2] rfl
                    have st186 := st185.frzB (s := 3) 8 rfl (by simp) (fun _ h => h) [] rfl [0, 2] rfl rfl
                    refine then_normal ?_
                    obtain rfl := Option.some.inj h165
                    exact ⟨_, _, _, _, _, _, _, _, _, _, st186.sel [3] rfl [(2, 7), (0, 4)] rfl ⟨fun _ h => h, ⟨fun _ h => h, trivial⟩⟩⟩
                  ·
                    refine st167.seg 1 (sc rfl (op_build (parts := [(0, .const (.int .i64 9))]) (ns := [1, 1, 1, 1, 1]) (zs := zpStmt) rfl rfl kB140 kC140 (fun w a hl => by
 intro p hp; simp only [List.mem_cons, List.not_mem_nil, or_false] at hp
 rcases hp with rfl
 · exact ⟨by decide, rfl⟩) (fun w a hl => Stmt.parts (x := (⟨(9 : Int), ⟨[]⟩, 0, ⟨[]⟩, 0⟩ : Stmt)) (OpdR.cells cI hl) zero_str ⟨rfl, trivial⟩ zero_str ⟨rfl, trivial⟩)) <| .nil) [44, 48, 50] rfl [(0, 4), (2, 7), (3, 8), (46, 5)] rfl ⟨fun _ h => h, ⟨fun _ h => h, ⟨fun _ h => h, ⟨fun _ h => h, trivial⟩⟩⟩⟩ (fun a187 w187 st187 => ?_)
                    refine aHN (st187.hkS (sb := 3) rfl) ?_
                    refine aH2 (i := 6) (j := 8) (by decide +kernel) rfl rfl ?_ ?_
                    ·
                      refine st187.hdR (s := 46) 5 true (fun _ => ((PV.root.row rfl (fun h => hA135 h rfl) p142).fld owFile.f5)) rfl rfl (fun _ h => h) [0, 2, 3] rfl (fun g188 A188 c188 hA188 st188 => ?_)
                      refine st188.seg 1 (sc rfl (xLc (sb := 46) (.head _) rfl rfl rfl kT92 (tp rfl) rfl) <| .nil) [44, 49, 50] rfl [(0, 4), (2, 7), (3, 8), (46, 5)] rfl ⟨fun _ h => h, ⟨fun _ h => h, ⟨fun _ h => h, ⟨fun _ h => h, trivial⟩⟩⟩⟩ (fun a189 w189 st189 => ?_)
                      refine aHN (st189.hkS (sb := 3) rfl) ?_
                      refine aH1 (i := 8) (by decide +kernel) rfl ?_
                      refine st189.seg 1 (sc rfl (op_lit (opds := [.tmp 50]) rfl kS92 kY92 rfl rfl (by decide) (.cons (tp rfl) .nil)) <| .nil) [44, 49, 51] rfl [(0, 4), (2, 7), (3, 8), (46, 5)] rfl ⟨fun _ h => h, ⟨fun _ h => h, ⟨fun _ h => h, ⟨fun _ h => h, trivial⟩⟩⟩⟩ (fun a190 w190 st190 => ?_)
                      refine aHN (st190.hkS (sb := 3) rfl) ?_
                      refine aH1 (i := 9) (by decide +kernel) rfl ?_
                      refine st190.mvG (s := 49) (sb := 46) 5 6 ((PV.root.row rfl (fun h => hA135 h rfl) p142).fld owFile.f5) (.head _) rfl (fits_one rfl rfl) rfl (by simp) (by simp) (by decide) rfl (fun _ h => h) [44, 51] rfl [0, 2, 3] rfl rfl rfl rfl (fun G192 H192 st192 => ?_)
                      have st193 := st192.gs (Gs' := [oneB none, oneB none, oneB none, oneB none, G20, G192, H192, oneB (some b2), G141]) rfl
                      refine st193.tipR (s := 49) 6 rfl rfl (by simp) (fun _ h => h) [0, 2, 3, 46] rfl rfl (fun g194 st194 => ?_)
                      refine st194.app 6 rfl rfl kE92 rfl rfl rfl row_dt p154 [44] rfl [0, 2, 3, 46] rfl rfl (fun g195 M195 a195 w195 st195 => ?_)
                      have st196 := st195.gs (Gs' := [oneB none, oneB none, oneB none, oneB none, G20, G192, oneB g195, oneB (some b2), G141]) rfl
                      refine aHN (st196.hkS (sb := 3) rfl) ?_
                      refine aH1 (i := 10) (by decide +kernel) rfl ?_
                      refine st196.seg 1 (sc rfl (xIa (g := g135) rfl kS28 (tp rfl) cI rfl (fun h => hA135 h rfl) p157) <| .nil) [53] rfl [(0, 4), (2, 7), (3, 8), (46, 5), (52, 6)] rfl ⟨fun _ h => h, ⟨fun _ h => h, ⟨fun _ h => h, ⟨fun _ h => h, ⟨fun _ h => h, trivial⟩⟩⟩⟩⟩ (fun a197 w197 st197 => ?_)
                      refine aHN (st197.hkS (sb := 3) rfl) ?_
                      refine aH1 (i := 11) (by decide +kernel) rfl ?_
                      refine st197.seg 1 (sc rfl (xFa rfl kF94_5 (tp rfl)) <| .nil) [54] rfl [(0, 4), (2, 7), (3, 8), (46, 5), (52, 6)] rfl ⟨fun _ h => h, ⟨fun _ h => h, ⟨fun _ h => h, ⟨fun _ h => h, ⟨fun _ h => h, trivial⟩⟩⟩⟩⟩ (fun a198 w198 st198 => ?_)
                      refine aHN (st198.hkS (sb := 3) rfl) ?_
                      refine aH1 (i := 12) (by decide +kernel) rfl ?_
                      have st200 := st198.tipW (s := 52) 6 rfl rfl (fun _ h => h) [0, 2, 3, 46] rfl
                      refine st200.stH (sb := 46) (tv := 52) 5 6 rfl rfl rfl kT92 (by simp) (by simp) (by decide) (tp rfl) rfl rfl (fun _ h => h) (fun _ h => h) [] rfl [0, 2, 3] rfl rfl rfl (fun G199 w199 st199 => ?_)
                      have st201 := st199.gs (Gs' := [oneB none, oneB none, oneB none, oneB none, G20, G199, oneB none, oneB (some b2), G141]) rfl
                      refine aHN (st201.hkS (sb := 3) rfl) ?_
                      refine aH0 (by decide +kernel) ?_
                      refine st201.stG (s := 46) (sb := 3) 8 5 rfl (by simp) (by simp) (by decide) rfl rfl (fun _ h => h) (fun _ h => h) [] rfl [0, 2] rfl rfl rfl (fun G202 st202 => ?_)
                      have st203 := st202.gs (Gs' := [oneB none, oneB none, oneB none, oneB none, G20, oneB none, oneB none, oneB (some b2), G202]) rfl
                      refine blk_normal ?_
                      have st204 := st203.unm (s := 3) 8 rfl rfl (fun _ h => h) [0, 2] rfl
                      have st205 := st204.frzB (s := 3) 8 rfl (by simp) (fun _ h => h) [] rfl [0, 2] rfl rfl
                      refine then_normal ?_
                      obtain rfl := Option.some.inj h165
                      exact ⟨_, _, _, _, _, _, _, _, _, _, st205.sel [3] rfl [(2, 7), (0, 4)] rfl ⟨fun _ h => h, ⟨fun _ h => h, trivial⟩⟩⟩
                    ·
                      refine st187.seg 1 (sc rfl (op_lit (opds := [.tmp 50]) rfl kS92 kY92 rfl rfl (by decide) (.cons (tp rfl) .nil)) <| .nil) [44, 48, 51] rfl [(0, 4), (2, 7), (3, 8), (46, 5)] rfl ⟨fun _ h => h, ⟨fun _ h => h, ⟨fun _ h => h, ⟨fun _ h => h, trivial⟩⟩⟩⟩ (fun a206 w206 st206 => ?_)
                      refine aHN (st206.hkS (sb := 3) rfl) ?_
                      refine aH1 (i := 6) (by decide +kernel) rfl ?_
                      refine st206.hdR (s := 46) 5 true (fun _ => ((PV.root.row rfl (fun h => hA135 h rfl) p142).fld owFile.f5)) rfl rfl (fun _ h => h) [0, 2, 3] rfl (fun g207 A207 c207 hA207 st207 => ?_)
                      refine st207.seg 1 (sc rfl (xLc (sb := 46) (.head _) rfl rfl rfl kT92 (tp rfl) rfl) <| .nil) [44, 49, 51] rfl [(0, 4), (2, 7), (3, 8), (46, 5)] rfl ⟨fun _ h => h, ⟨fun _ h => h, ⟨fun _ h => h, ⟨fun _ h => h, trivial⟩⟩⟩⟩ (fun a208 w208 st208 => ?_)
                      refine aHN (st208.hkS (sb := 3) rfl) ?_
                      refine aH1 (i := 9) (by decide +kernel) rfl ?_
                      refine st208.mvG (s := 49) (sb := 46) 5 6 ((PV.root.row rfl (fun h => hA135 h rfl) p142).fld owFile.f5) (.head _) rfl (fits_one rfl rfl) rfl (by simp) (by simp) (by decide) rfl (fun _ h => h) [44, 51] rfl [0, 2, 3] rfl rfl rfl rfl (fun G210 H210 st210 => ?_)
                      have st211 := st210.gs (Gs' := [oneB none, oneB none, oneB none, oneB none, G20, G210, H210, oneB (some b2), G141]) rfl
                      refine st211.tipR (s := 49) 6 rfl rfl (by simp) (fun _ h => h) [0, 2, 3, 46] rfl rfl (fun g212 st212 => ?_)
                      refine st212.app 6 rfl rfl kE92 rfl rfl rfl row_dt p154 [44] rfl [0, 2, 3, 46] rfl rfl (fun g213 M213 a213 w213 st213 => ?_)
                      have st214 := st213.gs (Gs' := [oneB none, oneB none, oneB none, oneB none, G20, G210, oneB g213, oneB (some b2), G141]) rfl
                      refine aHN (st214.hkS (sb := 3) rfl) ?_
                      refine aH1 (i := 10) (by decide +kernel) rfl ?_
                      refine st214.seg 1 (sc rfl (xIa (g := g135) rfl kS28 (tp rfl) cI rfl (fun h => hA135 h rfl) p157) <| .nil) [53] rfl [(0, 4), (2, 7), (3, 8), (46, 5), (52, 6)] rfl ⟨fun _ h => h, ⟨fun _ h => h, ⟨fun _ h => h, ⟨fun _ h => h, ⟨fun _ h => h, trivial⟩⟩⟩⟩⟩ (fun a215 w215 st215 => ?_)
                      refine aHN (st215.hkS (sb := 3) rfl) ?_
                      refine aH1 (i := 11) (by decide +kernel) rfl ?_
                      refine st215.seg 1 (sc rfl (xFa rfl kF94_5 (tp rfl)) <| .nil) [54] rfl [(0, 4), (2, 7), (3, 8), (46, 5), (52, 6)] rfl ⟨fun _ h => h, ⟨fun _ h => h, ⟨fun _ h => h, ⟨fun _ h => h, ⟨fun _ h => h, trivial⟩⟩⟩⟩⟩ (fun a216 w216 st216 => ?_)
                      refine aHN (st216.hkS (sb := 3) rfl) ?_
                      refine aH1 (i := 12) (by decide +kernel) rfl ?_
                      have st218 := st216.tipW (s := 52) 6 rfl rfl (fun _ h => h) [0, 2, 3, 46] rfl
                      refine st218.stH (sb := 46) (tv := 52) 5 6 rfl rfl rfl kT92 (by simp) (by simp) (by decide) (tp rfl) rfl rfl (fun _ h => h) (fun _ h => h) [] rfl [0, 2, 3] rfl rfl rfl (fun G217 w217 st217 => ?_)
                      have st219 := st217.gs (Gs' := [oneB none, oneB none, oneB none, oneB none, G20, G217, oneB none, oneB (some b2), G141]) rfl
                      refine aHN (st219.hkS (sb := 3) rfl) ?_
                      refine aH0 (by decide +kernel) ?_
                      refine st219.stG (s := 46) (sb := 3) 8 5 rfl (by simp) (by simp) (by decide) rfl rfl (fun _ h => h) (fun _ h => h) [] rfl [0, 2] rfl rfl rfl (fun G220 st220 => ?_)
                      have st221 := st220.gs (Gs' := [oneB none, oneB none, oneB none, oneB none, G20, oneB none, oneB none, oneB (some b2), G220]) rfl
                      refine blk_normal ?_
                      have st222 := st221.unm (s := 3) 8 rfl rfl (fun _ h => h) [0, 2] rfl
                      have st223 := st222.frzB (s := 3) 8 rfl (by simp) (fun _ h => h) [] rfl [0, 2] rfl rfl
                      refine then_normal ?_
                      obtain rfl := Option.some.inj h165
                      exact ⟨_, _, _, _, _, _, _, _, _, _, st223.sel [3] rfl [(2, 7), (0, 4)] rfl ⟨fun _ h => h, ⟨fun _ h => h, trivial⟩⟩⟩
                ·
                  refine st166.seg 1 (sc rfl (op_build (parts := [(0, .const (.int .i64 9))]) (ns := [1, 1, 1, 1, 1]) (zs := zpStmt) rfl rfl kB140 kC140 (fun w a hl => by
 intro p hp; simp only [List.mem_cons, List.not_mem_nil, or_false] at hp
 rcases hp with rfl
 · exact ⟨by decide, rfl⟩) (fun w a hl => Stmt.parts (x := (⟨(9 : Int), ⟨[]⟩, 0, ⟨[]⟩, 0⟩ : Stmt)) (OpdR.cells cI hl) zero_str ⟨rfl, trivial⟩ zero_str ⟨rfl, trivial⟩)) <| .nil) [44, 47, 50] rfl [(0, 4), (2, 7), (3, 8), (46, 5)] rfl ⟨fun _ h => h, ⟨fun _ h => h, ⟨fun _ h => h, ⟨fun _ h => h, trivial⟩⟩⟩⟩ (fun a224 w224 st224 => ?_)
                  refine aHN (st224.hkS (sb := 3) rfl) ?_
                  refine aH2 (i := 5) (j := 8) (by decide +kernel) rfl rfl ?_ ?_
                  ·
                    refine st224.seg 1 (sc rfl (xFa rfl kF94_5 (tp rfl)) <| .nil) [44, 48, 50] rfl [(0, 4), (2, 7), (3, 8), (46, 5)] rfl ⟨fun _ h => h, ⟨fun _ h => h, ⟨fun _ h => h, ⟨fun _ h => h, trivial⟩⟩⟩⟩ (fun a225 w225 st225 => ?_)
                    refine aHN (st225.hkS (sb := 3) rfl) ?_
                    refine aH2 (i := 6) (j := 8) (by decide +kernel) rfl rfl ?_ ?_
                    ·
                      refine st225.hdR (s := 46) 5 true (fun _ => ((PV.root.row rfl (fun h => hA135 h rfl) p142).fld owFile.f5)) rfl rfl (fun _ h => h) [0, 2, 3] rfl (fun g226 A226 c226 hA226 st226 => ?_)
                      refine st226.seg 1 (sc rfl (xLc (sb := 46) (.head _) rfl rfl rfl kT92 (tp rfl) rfl) <| .nil) [44, 49, 50] rfl [(0, 4), (2, 7), (3, 8), (46, 5)] rfl ⟨fun _ h => h, ⟨fun _ h => h, ⟨fun _ h => h, ⟨fun _ h => h, trivial⟩⟩⟩⟩ (fun a227 w227 st227 => ?_)
                      refine aHN (st227.hkS (sb := 3) rfl) ?_
                      refine aH1 (i := 8) (by decide +kernel) rfl ?_
                      refine st227.seg 1 (sc rfl (op_lit (opds := [.tmp 50]) rfl kS92 kY92 rfl rfl (by decide) (.cons (tp rfl) .nil)) <| .nil) [44, 49, 51] rfl [(0, 4), (2, 7), (3, 8), (46, 5)] rfl ⟨fun _ h => h, ⟨fun _ h => h, ⟨fun _ h => h, ⟨fun _ h => h, trivial⟩⟩⟩⟩ (fun a228 w228 st228 => ?_)
                      refine aHN (st228.hkS (sb := 3) rfl) ?_
                      refine aH1 (i := 9) (by decide +kernel) rfl ?_
                      refine st228.mvG (s := 49) (sb := 46) 5 6 ((PV.root.row rfl (fun h => hA135 h rfl) p142).fld owFile.f5) (.head _) rfl (fits_one rfl rfl) rfl (by simp) (by simp) (by decide) rfl (fun _ h => h) [44, 51] rfl [0, 2, 3] rfl rfl rfl rfl (fun G230 H230 st230 => ?_)
                      have st231 := st230.gs (Gs' := [oneB none, oneB none, oneB none, oneB none, G20, G230, H230, oneB (some b2), G141]) rfl
                      refine st231.tipR (s := 49) 6 rfl rfl (by simp) (fun _ h => h) [0, 2, 3, 46] rfl rfl (fun g232 st232 => ?_)
                      refine st232.app 6 rfl rfl kE92 rfl rfl rfl row_dt p154 [44] rfl [0, 2, 3, 46] rfl rfl (fun g233 M233 a233 w233 st233 => ?_)
                      have st234 := st233.gs (Gs' := [oneB none, oneB none, oneB none, oneB none, G20, G230, oneB g233, oneB (some b2), G141]) rfl
                      refine aHN (st234.hkS (sb := 3) rfl) ?_
                      refine aH1 (i := 10) (by decide +kernel) rfl ?_
                      refine st234.seg 1 (sc rfl (xIa (g := g135) rfl kS28 (tp rfl) cI rfl (fun h => hA135 h rfl) p157) <| .nil) [53] rfl [(0, 4), (2, 7), (3, 8), (46, 5), (52, 6)] rfl ⟨fun _ h => h, ⟨fun _ h => h, ⟨fun _ h => h, ⟨fun _ h => h, ⟨fun _ h => h, trivial⟩⟩⟩⟩⟩ (fun a235 w235 st235 => ?_)
                      refine aHN (st235.hkS (sb := 3) rfl) ?_
                      refine aH1 (i := 11) (by decide +kernel) rfl ?_
                      refine st235.seg 1 (sc rfl (xFa rfl kF94_5 (tp rfl)) <| .nil) [54] rfl [(0, 4), (2, 7), (3, 8), (46, 5), (52, 6)] rfl ⟨fun _ h => h, ⟨fun _ h => h, ⟨fun _ h => h, ⟨fun _ h => h, ⟨fun _ h => h, trivial⟩⟩⟩⟩⟩ (fun a236 w236 st236 => ?_)
                      refine aHN (st236.hkS (sb := 3) rfl) ?_
                      refine aH1 (i := 12) (by decide +kernel) rfl ?_
                      have st238 := st236.tipW (s := 52) 6 rfl rfl (fun _ h => h) [0, 2, 3, 46] rfl
                      refine st238.stH (sb := 46) (tv := 52) 5 6 rfl rfl rfl kT92 (by simp) (by simp) (by decide) (tp rfl) rfl rfl (fun _ h => h) (fun _ h => h) [] rfl [0, 2, 3] rfl rfl rfl (fun G237 w237 st237 => ?_)
                      have st239 := st237.gs (Gs' := [oneB none, oneB none, oneB none, oneB none, G20, G237, oneB none, oneB (some b2), G141]) rfl
                      refine aHN (st239.hkS (sb := 3) rfl) ?_
                      refine aH0 (by decide +kernel) ?_
                      refine st239.stG (s := 46) (sb := 3) 8 5 rfl (by simp) (by simp) (by decide) rfl rfl (fun _ h => h) (fun _ h => h) [] rfl [0, 2] rfl rfl rfl (fun G240 st240 => ?_)
                      have st241 := st240.gs (Gs' := [oneB none, oneB none, oneB none, oneB none, G20, oneB none, oneB none, oneB (some b2), G240]) rfl
                      refine blk_normal ?_
                      have st242 := st241.unm (s := 3) 8 rfl rfl (fun _ h => h) [0, 2] rfl
                      have st243 := st242.frzB (s := 3) 8 rfl (by simp) (fun _ h => h) [] rfl [0, 2] rfl rfl
                      refine then_normal ?_
                      obtain rfl := Option.some.inj h165
                      exact ⟨_, _, _, _, _, _, _, _, _, _, st243.sel [3] rfl [(2, 7), (0, 4)] rfl ⟨fun _ h => h, ⟨fun _ h => h, trivial⟩⟩⟩
                    ·
                      refine st225.seg 1 (sc rfl (op_lit (opds := [.tmp 50]) rfl kS92 kY92 rfl rfl (by decide) (.cons (tp rfl) .nil)) <| .nil) [44, 48, 51] rfl [(0, 4), (2, 7), (3, 8), (46, 5)] rfl ⟨fun _ h => h, ⟨fun _ h => h, ⟨fun _ h => h, ⟨fun _ h => h, trivial⟩⟩⟩⟩ (fun a244 w244 st244 => ?_)
                      refine aHN (st244.hkS (sb := 3) rfl) ?_
                      refine aH1 (i := 6) (by decide +kernel) rfl ?_
                      refine st244.hdR (s := 46) 5 true (fun _ => ((PV.root.row rfl (fun h => hA135 h rfl) p142).fld owFile.f5)) rfl rfl (fun _ h => h) [0, 2, 3] rfl (fun g245 A245 c245 hA245 st245 => ?_)
                      refine st245.seg 1 (sc rfl (xLc (sb := 46) (.head _) rfl rfl rfl kT92 (tp rfl) rfl) <| .nil) [44, 49, 51] rfl [(0, 4), (2, 7), (3, 8), (46, 5)] rfl ⟨fun _ h => h, ⟨fun _ h => h, ⟨fun _ h => h, ⟨fun _ h => h, trivial⟩⟩⟩⟩ (fun a246 w246 st246 => ?_)
                      refine aHN (st246.hkS (sb := 3) rfl) ?_
                      refine aH1 (i := 9) (by decide +kernel) rfl ?_
                      refine st246.mvG (s := 49) (sb := 46) 5 6 ((PV.root.row rfl (fun h => hA135 h rfl) p142).fld owFile.f5) (.head _) rfl (fits_one rfl rfl) rfl (by simp) (by simp) (by decide) rfl (fun _ h => h) [44, 51] rfl [0, 2, 3] rfl rfl rfl rfl (fun G248 H248 st248 => ?_)
                      have st249 := st248.gs (Gs' := [oneB none, oneB none, oneB none, oneB none, G20, G248, H248, oneB (some b2), G141]) rfl
                      refine st249.tipR (s := 49) 6 rfl rfl (by simp) (fun _ h => h) [0, 2, 3, 46] rfl rfl (fun g250 st250 => ?_)
                      refine st250.app 6 rfl rfl kE92 rfl rfl rfl row_dt p154 [44] rfl [0, 2, 3, 46] rfl rfl (fun g251 M251 a251 w251 st251 => ?_)
                      have st252 := st251.gs (Gs' := [oneB none, oneB none, oneB none, oneB none, G20, G248, oneB g251, oneB (some b2), G141]) rfl
                      refine aHN (st252.hkS (sb := 3) rfl) ?_
                      refine aH1 (i := 10) (by decide +kernel) rfl ?_
                      refine st252.seg 1 (sc rfl (xIa (g := g135) rfl kS28 (tp rfl) cI rfl (fun h => hA135 h rfl) p157) <| .nil) [53] rfl [(0, 4), (2, 7), (3, 8), (46, 5), (52, 6)] rfl ⟨fun _ h => h, ⟨fun _ h => h, ⟨fun _ h => h, ⟨fun _ h => h, ⟨fun _ h => h, trivial⟩⟩⟩⟩⟩ (fun a253 w253 st253 => ?_)
                      refine aHN (st253.hkS (sb := 3) rfl) ?_
                      refine aH1 (i := 11) (by decide +kernel) rfl ?_
                      refine st253.seg 1 (sc rfl (xFa rfl kF94_5 (tp rfl)) <| .nil) [54] rfl [(0, 4), (2, 7), (3, 8), (46, 5), (52, 6)] rfl ⟨fun _ h => h, ⟨fun _ h => h, ⟨fun _ h => h, ⟨fun _ h => h, ⟨fun _ h => h, trivial⟩⟩⟩⟩⟩ (fun a254 w254 st254 => ?_)
                      refine aHN (st254.hkS (sb := 3) rfl) ?_
                      refine aH1 (i := 12) (by decide +kernel) rfl ?_
                      have st256 := st254.tipW (s := 52) 6 rfl rfl (fun _ h => h) [0, 2, 3, 46] rfl
                      refine st256.stH (sb := 46) (tv := 52) 5 6 rfl rfl rfl kT92 (by simp) (by simp) (by decide) (tp rfl) rfl rfl (fun _ h => h) (fun _ h => h) [] rfl [0, 2, 3] rfl rfl rfl (fun G255 w255 st255 => ?_)
                      have st257 := st255.gs (Gs' := [oneB none, oneB none, oneB none, oneB none, G20, G255, oneB none, oneB (some b2), G141]) rfl
                      refine aHN (st257.hkS (sb := 3) rfl) ?_
                      refine aH0 (by decide +kernel) ?_
                      refine st257.stG (s := 46) (sb := 3) 8 5 rfl (by simp) (by simp) (by decide) rfl rfl (fun _ h => h) (fun _ h => h) [] rfl [0, 2] rfl rfl rfl (fun G258 st258 => ?_)
                      have st259 := st258.gs (Gs' := [oneB none, oneB none, oneB none, oneB none, G20, oneB none, oneB none, oneB (some b2), G258]) rfl
                      refine blk_normal ?_
                      have st260 := st259.unm (s := 3) 8 rfl rfl (fun _ h => h) [0, 2] rfl
                      have st261 := st260.frzB (s := 3) 8 rfl (by simp) (fun _ h => h) [] rfl [0, 2] rfl rfl
                      refine then_normal ?_
                      obtain rfl := Option.some.inj h165
                      exact ⟨_, _, _, _, _, _, _, _, _, _, st261.sel [3] rfl [(2, 7), (0, 4)] rfl ⟨fun _ h => h, ⟨fun _ h => h, trivial⟩⟩⟩
                  ·
                    refine st224.seg 1 (sc rfl (op_lit (opds := [.tmp 50]) rfl kS92 kY92 rfl rfl (by decide) (.cons (tp rfl) .nil)) <| .nil) [44, 47, 51] rfl [(0, 4), (2, 7), (3, 8), (46, 5)] rfl ⟨fun _ h => h, ⟨fun _ h => h, ⟨fun _ h => h, ⟨fun _ h => h, trivial⟩⟩⟩⟩ (fun a262 w262 st262 => ?_)
                    refine aHN (st262.hkS (sb := 3) rfl) ?_
                    refine aH1 (i := 5) (by decide +kernel) rfl ?_
                    refine st262.seg 1 (sc rfl (xFa rfl kF94_5 (tp rfl)) <| .nil) [44, 48, 51] rfl [(0, 4), (2, 7), (3, 8), (46, 5)] rfl ⟨fun _ h => h, ⟨fun _ h => h, ⟨fun _ h => h, ⟨fun _ h => h, trivial⟩⟩⟩⟩ (fun a263 w263 st263 => ?_)
                    refine aHN (st263.hkS (sb := 3) rfl) ?_
                    refine aH1 (i := 6) (by decide +kernel) rfl ?_
                    refine st263.hdR (s := 46) 5 true (fun _ => ((PV.root.row rfl (fun h => hA135 h rfl) p142).fld owFile.f5)) rfl rfl (fun _ h => h) [0, 2, 3] rfl (fun g264 A264 c264 hA264 st264 => ?_)
                    refine st264.seg 1 (sc rfl (xLc (sb := 46) (.head _) rfl rfl rfl kT92 (tp rfl) rfl) <| .nil) [44, 49, 51] rfl [(0, 4), (2, 7), (3, 8), (46, 5)] rfl ⟨fun _ h => h, ⟨fun _ h => h, ⟨fun _ h => h, ⟨fun _ h => h, trivial⟩⟩⟩⟩ (fun a265 w265 st265 => ?_)
                    refine aHN (st265.hkS (sb := 3) rfl) ?_
                    refine aH1 (i := 9) (by decide +kernel) rfl ?_
                    refine st265.mvG (s := 49) (sb := 46) 5 6 ((PV.root.row rfl (fun h => hA135 h rfl) p142).fld owFile.f5) (.head _) rfl (fits_one rfl rfl) rfl (by simp) (by simp) (by decide) rfl (fun _ h => h) [44, 51] rfl [0, 2, 3] rfl rfl rfl rfl (fun G267 H267 st267 => ?_)
                    have st268 := st267.gs (Gs' := [oneB none, oneB none, oneB none, oneB none, G20, G267, H267, oneB (some b2), G141]) rfl
                    refine st268.tipR (s := 49) 6 rfl rfl (by simp) (fun _ h => h) [0, 2, 3, 46] rfl rfl (fun g269 st269 => ?_)
                    refine st269.app 6 rfl rfl kE92 rfl rfl rfl row_dt p154 [44] rfl [0, 2, 3, 46] rfl rfl (fun g270 M270 a270 w270 st270 => ?_)
                    have st271 := st270.gs (Gs' := [oneB none, oneB none, oneB none, oneB none, G20, G267, oneB g270, oneB (some b2), G141]) rfl
                    refine aHN (st271.hkS (sb := 3) rfl) ?_
                    refine aH1 (i := 10) (by decide +kernel) rfl ?_
                    refine st271.seg 1 (sc rfl (xIa (g := g135) rfl kS28 (tp rfl) cI rfl (fun h => hA135 h rfl) p157) <| .nil) [53] rfl [(0, 4), (2, 7), (3, 8), (46, 5), (52, 6)] rfl ⟨fun _ h => h, ⟨fun _ h => h, ⟨fun _ h => h, ⟨fun _ h => h, ⟨fun _ h => h, trivial⟩⟩⟩⟩⟩ (fun a272 w272 st272 => ?_)
                    refine aHN (st272.hkS (sb := 3) rfl) ?_
                    refine aH1 (i := 11) (by decide +kernel) rfl ?_
                    refine st272.seg 1 (sc rfl (xFa rfl kF94_5 (tp rfl)) <| .nil) [54] rfl [(0, 4), (2, 7), (3, 8), (46, 5), (52, 6)] rfl ⟨fun _ h => h, ⟨fun _ h => h, ⟨fun _ h => h, ⟨fun _ h => h, ⟨fun _ h => h, trivial⟩⟩⟩⟩⟩ (fun a273 w273 st273 => ?_)
                    refine aHN (st273.hkS (sb := 3) rfl) ?_
                    refine aH1 (i := 12) (by decide +kernel) rfl ?_
                    have st275 := st273.tipW (s := 52) 6 rfl rfl (fun _ h => h) [0, 2, 3, 46] rfl
                    refine st275.stH (sb := 46) (tv := 52) 5 6 rfl rfl rfl kT92 (by simp) (by simp) (by decide) (tp rfl) rfl rfl (fun _ h => h) (fun _ h => h) [] rfl [0, 2, 3] rfl rfl rfl (fun G274 w274 st274 => ?_)
                    have st276 := st274.gs (Gs' := [oneB none, oneB none, oneB none, oneB none, G20, G274, oneB none, oneB (some b2), G141]) rfl
                    refine aHN (st276.hkS (sb := 3) rfl) ?_
                    refine aH0 (by decide +kernel) ?_
                    refine st276.stG (s := 46) (sb := 3) 8 5 rfl (by simp) (by simp) (by decide) rfl rfl (fun _ h => h) (fun _ h => h) [] rfl [0, 2] rfl rfl rfl (fun G277 st277 => ?_)
                    have st278 := st277.gs (Gs' := [oneB none, oneB none, oneB none, oneB none, G20, oneB none, oneB none, oneB (some b2), G277]) rfl
                    refine blk_normal ?_
                    have st279 := st278.unm (s := 3) 8 rfl rfl (fun _ h => h) [0, 2] rfl
                    have st280 := st279.frzB (s := 3) 8 rfl (by simp) (fun _ h => h) [] rfl [0, 2] rfl rfl
                    refine then_normal ?_
                    obtain rfl := Option.some.inj h165
                    exact ⟨_, _, _, _, _, _, _, _, _, _, st280.sel [3] rfl [(2, 7), (0, 4)] rfl ⟨fun _ h => h, ⟨fun _ h => h, trivial⟩⟩⟩
              ·
                refine st141.seg 1 (sc rfl (op_build (parts := [(0, .const (.int .i64 9))]) (ns := [1, 1, 1, 1, 1]) (zs := zpStmt) rfl rfl kB140 kC140 (fun w a hl => by
 intro p hp; simp only [List.mem_cons, List.not_mem_nil, or_false] at hp
 rcases hp with rfl
 · exact ⟨by decide, rfl⟩) (fun w a hl => Stmt.parts (x := (⟨(9 : Int), ⟨[]⟩, 0, ⟨[]⟩, 0⟩ : Stmt)) (OpdR.cells cI hl) zero_str ⟨rfl, trivial⟩ zero_str ⟨rfl, trivial⟩)) <| .nil) [44, 50] rfl [(0, 4), (2, 7), (3, 8), (46, 5)] rfl ⟨fun _ h => h, ⟨fun _ h => h, ⟨fun _ h => h, ⟨fun _ h => h, trivial⟩⟩⟩⟩ (fun a281 w281 st281 => ?_)
                refine aHN (st281.hkS (sb := 3) rfl) ?_
                refine aH2 (i := 4) (j := 8) (by decide +kernel) rfl rfl ?_ ?_
                ·
                  refine st281.seg 1 (sc rfl (xIaN rfl kS28 rfl cI (fun h => hA135 h rfl) p142) <| .nil) [44, 47, 50] rfl [(0, 4), (2, 7), (3, 8), (46, 5)] rfl ⟨fun _ h => h, ⟨fun _ h => h, ⟨fun _ h => h, ⟨fun _ h => h, trivial⟩⟩⟩⟩ (fun a282 w282 st282 => ?_)
                  refine aHN (st282.hkS (sb := 3) rfl) ?_
                  refine aH2 (i := 5) (j := 8) (by decide +kernel) rfl rfl ?_ ?_
                  ·
                    refine st282.seg 1 (sc rfl (xFa rfl kF94_5 (tp rfl)) <| .nil) [44, 48, 50] rfl [(0, 4), (2, 7), (3, 8), (46, 5)] rfl ⟨fun _ h => h, ⟨fun _ h => h, ⟨fun _ h => h, ⟨fun _ h => h, trivial⟩⟩⟩⟩ (fun a283 w283 st283 => ?_)
                    refine aHN (st283.hkS (sb := 3) rfl) ?_
                    refine aH2 (i := 6) (j := 8) (by decide +kernel) rfl rfl ?_ ?_
                    ·
                      refine st283.hdR (s := 46) 5 true (fun _ => ((PV.root.row rfl (fun h => hA135 h rfl) p142).fld owFile.f5)) rfl rfl (fun _ h => h) [0, 2, 3] rfl (fun g284 A284 c284 hA284 st284 => ?_)
                      refine st284.seg 1 (sc rfl (xLc (sb := 46) (.head _) rfl rfl rfl kT92 (tp rfl) rfl) <| .nil) [44, 49, 50] rfl [(0, 4), (2, 7), (3, 8), (46, 5)] rfl ⟨fun _ h => h, ⟨fun _ h => h, ⟨fun _ h => h, ⟨fun _ h => h, trivial⟩⟩⟩⟩ (fun a285 w285 st285 => ?_)
                      refine aHN (st285.hkS (sb := 3) rfl) ?_
                      refine aH1 (i := 8) (by decide +kernel) rfl ?_
                      refine st285.seg 1 (sc rfl (op_lit (opds := [.tmp 50]) rfl kS92 kY92 rfl rfl (by decide) (.cons (tp rfl) .nil)) <| .nil) [44, 49, 51] rfl [(0, 4), (2, 7), (3, 8), (46, 5)] rfl ⟨fun _ h => h, ⟨fun _ h => h, ⟨fun _ h => h, ⟨fun _ h => h, trivial⟩⟩⟩⟩ (fun a286 w286 st286 => ?_)
                      refine aHN (st286.hkS (sb := 3) rfl) ?_
                      refine aH1 (i := 9) (by decide +kernel) rfl ?_
                      refine st286.mvG (s := 49) (sb := 46) 5 6 ((PV.root.row rfl (fun h => hA135 h rfl) p142).fld owFile.f5) (.head _) rfl (fits_one rfl rfl) rfl (by simp) (by simp) (by decide) rfl (fun _ h => h) [44, 51] rfl [0, 2, 3] rfl rfl rfl rfl (fun G288 H288 st288 => ?_)
                      have st289 := st288.gs (Gs' := [oneB none, oneB none, oneB none, oneB none, G20, G288, H288, oneB (some b2), G141]) rfl
                      refine st289.tipR (s := 49) 6 rfl rfl (by simp) (fun _ h => h) [0, 2, 3, 46] rfl rfl (fun g290 st290 => ?_)
                      refine st290.app 6 rfl rfl kE92 rfl rfl rfl row_dt p154 [44] rfl [0, 2, 3, 46] rfl rfl (fun g291 M291 a291 w291 st291 => ?_)
                      have st292 := st291.gs (Gs' := [oneB none, oneB none, oneB none, oneB none, G20, G288, oneB g291, oneB (some b2), G141]) rfl
                      refine aHN (st292.hkS (sb := 3) rfl) ?_
                      refine aH1 (i := 10) (by decide +kernel) rfl ?_
                      refine st292.seg 1 (sc rfl (xIa (g := g135) rfl kS28 (tp rfl) cI rfl (fun h => hA135 h rfl) p157) <| .nil) [53] rfl [(0, 4), (2, 7), (3, 8), (46, 5), (52, 6)] rfl ⟨fun _ h => h, ⟨fun _ h => h, ⟨fun _ h => h, ⟨fun _ h => h, ⟨fun _ h => h, trivial⟩⟩⟩⟩⟩ (fun a293 w293 st293 => ?_)
                      refine aHN (st293.hkS (sb := 3) rfl) ?_
                      refine aH1 (i := 11) (by decide +kernel) rfl ?_
                      refine st293.seg 1 (sc rfl (xFa rfl kF94_5 (tp rfl)) <| .nil) [54] rfl [(0, 4), (2, 7), (3, 8), (46, 5), (52, 6)] rfl ⟨fun _ h => h, ⟨fun _ h => h, ⟨fun _ h => h, ⟨fun _ h => h, ⟨fun _ h => h, trivial⟩⟩⟩⟩⟩ (fun a294 w294 st294 => ?_)
                      refine aHN (st294.hkS (sb := 3) rfl) ?_
                      refine aH1 (i := 12) (by decide +kernel) rfl ?_
                      have st296 := st294.tipW (s := 52) 6 rfl rfl (fun _ h => h) [0, 2, 3, 46] rfl
                      refine st296.stH (sb := 46) (tv := 52) 5 6 rfl rfl rfl kT92 (by simp) (by simp) (by decide) (tp rfl) rfl rfl (fun _ h => h) (fun _ h => h) [] rfl [0, 2, 3] rfl rfl rfl (fun G295 w295 st295 => ?_)
                      have st297 := st295.gs (Gs' := [oneB none, oneB none, oneB none, oneB none, G20, G295, oneB none, oneB (some b2), G141]) rfl
                      refine aHN (st297.hkS (sb := 3) rfl) ?_
                      refine aH0 (by decide +kernel) ?_
                      refine st297.stG (s := 46) (sb := 3) 8 5 rfl (by simp) (by simp) (by decide) rfl rfl (fun _ h => h) (fun _ h => h) [] rfl [0, 2] rfl rfl rfl (fun G298 st298 => ?_)
                      have st299 := st298.gs (Gs' := [oneB none, oneB none, oneB none, oneB none, G20, oneB none, oneB none, oneB (some b2), G298]) rfl
                      refine blk_normal ?_
                      have st300 := st299.unm (s := 3) 8 rfl rfl (fun _ h => h) [0, 2] rfl
                      have st301 := st300.frzB (s := 3) 8 rfl (by simp) (fun _ h => h) [] rfl [0, 2] rfl rfl
                      refine then_normal ?_
                      obtain rfl := Option.some.inj h165
                      exact ⟨_, _, _, _, _, _, _, _, _, _, st301.sel [3] rfl [(2, 7), (0, 4)] rfl ⟨fun _ h => h, ⟨fun _ h => h, trivial⟩⟩⟩
                    ·
                      refine st283.seg 1 (sc rfl (op_lit (opds := [.tmp 50]) rfl kS92 kY92 rfl rfl (by decide) (.cons (tp rfl) .nil)) <| .nil) [44, 48, 51] rfl [(0, 4), (2, 7), (3, 8), (46, 5)] rfl ⟨fun _ h => h, ⟨fun _ h => h, ⟨fun _ h => h, ⟨fun _ h => h, trivial⟩⟩⟩⟩ (fun a302 w302 st302 => ?_)
                      refine aHN (st302.hkS (sb := 3) rfl) ?_
                      refine aH1 (i := 6) (by decide +kernel) rfl ?_
                      refine st302.hdR (s := 46) 5 true (fun _ => ((PV.root.row rfl (fun h => hA135 h rfl) p142).fld owFile.f5)) rfl rfl (fun _ h => h) [0, 2, 3] rfl (fun g303 A303 c303 hA303 st303 => ?_)
                      refine st303.seg 1 (sc rfl (xLc (sb := 46) (.head _) rfl rfl rfl kT92 (tp rfl) rfl) <| .nil) [44, 49, 51] rfl [(0, 4), (2, 7), (3, 8), (46, 5)] rfl ⟨fun _ h => h, ⟨fun _ h => h, ⟨fun _ h => h, ⟨fun _ h => h, trivial⟩⟩⟩⟩ (fun a304 w304 st304 => ?_)
                      refine aHN (st304.hkS (sb := 3) rfl) ?_
                      refine aH1 (i := 9) (by decide +kernel) rfl ?_
                      refine st304.mvG (s := 49) (sb := 46) 5 6 ((PV.root.row rfl (fun h => hA135 h rfl) p142).fld owFile.f5) (.head _) rfl (fits_one rfl rfl) rfl (by simp) (by simp) (by decide) rfl (fun _ h => h) [44, 51] rfl [0, 2, 3] rfl rfl rfl rfl (fun G306 H306 st306 => ?_)
                      have st307 := st306.gs (Gs' := [oneB none, oneB none, oneB none, oneB none, G20, G306, H306, oneB (some b2), G141]) rfl
                      refine st307.tipR (s := 49) 6 rfl rfl (by simp) (fun _ h => h) [0, 2, 3, 46] rfl rfl (fun g308 st308 => ?_)
                      refine st308.app 6 rfl rfl kE92 rfl rfl rfl row_dt p154 [44] rfl [0, 2, 3, 46] rfl rfl (fun g309 M309 a309 w309 st309 => ?_)
                      have st310 := st309.gs (Gs' := [oneB none, oneB none, oneB none, oneB none, G20, G306, oneB g309, oneB (some b2), G141]) rfl
                      refine aHN (st310.hkS (sb := 3) rfl) ?_
                      refine aH1 (i := 10) (by decide +kernel) rfl ?_
                      refine st310.seg 1 (sc rfl (xIa (g := g135) rfl kS28 (tp rfl) cI rfl (fun h => hA135 h rfl) p157) <| .nil) [53] rfl [(0, 4), (2, 7), (3, 8), (46, 5), (52, 6)] rfl ⟨fun _ h => h, ⟨fun _ h => h, ⟨fun _ h => h, ⟨fun _ h => h, ⟨fun _ h => h, trivial⟩⟩⟩⟩⟩ (fun a311 w311 st311 => ?_)
                      refine aHN (st311.hkS (sb := 3) rfl) ?_
                      refine aH1 (i := 11) (by decide +kernel) rfl ?_
                      refine st311.seg 1 (sc rfl (xFa rfl kF94_5 (tp rfl)) <| .nil) [54] rfl [(0, 4), (2, 7), (3, 8), (46, 5), (52, 6)] rfl ⟨fun _ h => h, ⟨fun _ h => h, ⟨fun _ h => h, ⟨fun _ h => h, ⟨fun _ h => h, trivial⟩⟩⟩⟩⟩ (fun a312 w312 st312 => ?_)
                      refine aHN (st312.hkS (sb := 3) rfl) ?_
                      refine aH1 (i := 12) (by decide +kernel) rfl ?_
                      have st314 := st312.tipW (s := 52) 6 rfl rfl (fun _ h => h) [0, 2, 3, 46] rfl
                      refine st314.stH (sb := 46) (tv := 52) 5 6 rfl rfl rfl kT92 (by simp) (by simp) (by decide) (tp rfl) rfl rfl (fun _ h => h) (fun _ h => h) [] rfl [0, 2, 3] rfl rfl rfl (fun G313 w313 st313 => ?_)
                      have st315 := st313.gs (Gs' := [oneB none, oneB none, oneB none, oneB none, G20, G313, oneB none, oneB (some b2), G141]) rfl
                      refine aHN (st315.hkS (sb := 3) rfl) ?_
                      refine aH0 (by decide +kernel) ?_
                      refine st315.stG (s := 46) (sb := 3) 8 5 rfl (by simp) (by simp) (by decide) rfl rfl (fun _ h => h) (fun _ h => h) [] rfl [0, 2] rfl rfl rfl (fun G316 st316 => ?_)
                      have st317 := st316.gs (Gs' := [oneB none, oneB none, oneB none, oneB none, G20, oneB none, oneB none, oneB (some b2), G316]) rfl
                      refine blk_normal ?_
                      have st318 := st317.unm (s := 3) 8 rfl rfl (fun _ h => h) [0, 2] rfl
                      have st319 := st318.frzB (s := 3) 8 rfl (by simp) (fun _ h => h) [] rfl [0, 2] rfl rfl
                      refine then_normal ?_
                      obtain rfl := Option.some.inj h165
                      exact ⟨_, _, _, _, _, _, _, _, _, _, st319.sel [3] rfl [(2, 7), (0, 4)] rfl ⟨fun _ h => h, ⟨fun _ h => h, trivial⟩⟩⟩
                  ·
                    refine st282.seg 1 (sc rfl (op_lit (opds := [.tmp 50]) rfl kS92 kY92 rfl rfl (by decide) (.cons (tp rfl) .nil)) <| .nil) [44, 47, 51] rfl [(0, 4), (2, 7), (3, 8), (46, 5)] rfl ⟨fun _ h => h, ⟨fun _ h => h, ⟨fun _ h => h, ⟨fun _ h => h, trivial⟩⟩⟩⟩ (fun a320 w320 st320 => ?_)
                    refine aHN (st320.hkS (sb := 3) rfl) ?_
                    refine aH1 (i := 5) (by decide +kernel) rfl ?_
                    refine st320.seg 1 (sc rfl (xFa rfl kF94_5 (tp rfl)) <| .nil) [44, 48, 51] rfl [(0, 4), (2, 7), (3, 8), (46, 5)] rfl ⟨fun _ h => h, ⟨fun _ h => h, ⟨fun _ h => h, ⟨fun _ h => h, trivial⟩⟩⟩⟩ (fun a321 w321 st321 => ?_)
                    refine aHN (st321.hkS (sb := 3) rfl) ?_
                    refine aH1 (i := 6) (by decide +kernel) rfl ?_
                    refine st321.hdR (s := 46) 5 true (fun _ => ((PV.root.row rfl (fun h => hA135 h rfl) p142).fld owFile.f5)) rfl rfl (fun _ h => h) [0, 2, 3] rfl (fun g322 A322 c322 hA322 st322 => ?_)
                    refine st322.seg 1 (sc rfl (xLc (sb := 46) (.head _) rfl rfl rfl kT92 (tp rfl) rfl) <| .nil) [44, 49, 51] rfl [(0, 4), (2, 7), (3, 8), (46, 5)] rfl ⟨fun _ h => h, ⟨fun _ h => h, ⟨fun _ h => h, ⟨fun _ h => h, trivial⟩⟩⟩⟩ (fun a323 w323 st323 => ?_)
                    refine aHN (st323.hkS (sb := 3) rfl) ?_
                    refine aH1 (i := 9) (by decide +kernel) rfl ?_
                    refine st323.mvG (s := 49) (sb := 46) 5 6 ((PV.root.row rfl (fun h => hA135 h rfl) p142).fld owFile.f5) (.head _) rfl (fits_one rfl rfl) rfl (by simp) (by simp) (by decide) rfl (fun _ h => h) [44, 51] rfl [0, 2, 3] rfl rfl rfl rfl (fun G325 H325 st325 => ?_)
                    have st326 := st325.gs (Gs' := [oneB none, oneB none, oneB none, oneB none, G20, G325, H325, oneB (some b2), G141]) rfl
                    refine st326.tipR (s := 49) 6 rfl rfl (by simp) (fun _ h => h) [0, 2, 3, 46] rfl rfl (fun g327 st327 => ?_)
                    refine st327.app 6 rfl rfl kE92 rfl rfl rfl row_dt p154 [44] rfl [0, 2, 3, 46] rfl rfl (fun g328 M328 a328 w328 st328 => ?_)
                    have st329 := st328.gs (Gs' := [oneB none, oneB none, oneB none, oneB none, G20, G325, oneB g328, oneB (some b2), G141]) rfl
                    refine aHN (st329.hkS (sb := 3) rfl) ?_
                    refine aH1 (i := 10) (by decide +kernel) rfl ?_
                    refine st329.seg 1 (sc rfl (xIa (g := g135) rfl kS28 (tp rfl) cI rfl (fun h => hA135 h rfl) p157) <| .nil) [53] rfl [(0, 4), (2, 7), (3, 8), (46, 5), (52, 6)] rfl ⟨fun _ h => h, ⟨fun _ h => h, ⟨fun _ h => h, ⟨fun _ h => h, ⟨fun _ h => h, trivial⟩⟩⟩⟩⟩ (fun a330 w330 st330 => ?_)
                    refine aHN (st330.hkS (sb := 3) rfl) ?_
                    refine aH1 (i := 11) (by decide +kernel) rfl ?_
                    refine st330.seg 1 (sc rfl (xFa rfl kF94_5 (tp rfl)) <| .nil) [54] rfl [(0, 4), (2, 7), (3, 8), (46, 5), (52, 6)] rfl ⟨fun _ h => h, ⟨fun _ h => h, ⟨fun _ h => h, ⟨fun _ h => h, ⟨fun _ h => h, trivial⟩⟩⟩⟩⟩ (fun a331 w331 st331 => ?_)
                    refine aHN (st331.hkS (sb := 3) rfl) ?_
                    refine aH1 (i := 12) (by decide +kernel) rfl ?_
                    have st333 := st331.tipW (s := 52) 6 rfl rfl (fun _ h => h) [0, 2, 3, 46] rfl
                    refine st333.stH (sb := 46) (tv := 52) 5 6 rfl rfl rfl kT92 (by simp) (by simp) (by decide) (tp rfl) rfl rfl (fun _ h => h) (fun _ h => h) [] rfl [0, 2, 3] rfl rfl rfl (fun G332 w332 st332 => ?_)
                    have st334 := st332.gs (Gs' := [oneB none, oneB none, oneB none, oneB none, G20, G332, oneB none, oneB (some b2), G141]) rfl
                    refine aHN (st334.hkS (sb := 3) rfl) ?_
                    refine aH0 (by decide +kernel) ?_
                    refine st334.stG (s := 46) (sb := 3) 8 5 rfl (by simp) (by simp) (by decide) rfl rfl (fun _ h => h) (fun _ h => h) [] rfl [0, 2] rfl rfl rfl (fun G335 st335 => ?_)
                    have st336 := st335.gs (Gs' := [oneB none, oneB none, oneB none, oneB none, G20, oneB none, oneB none, oneB (some b2), G335]) rfl
                    refine blk_normal ?_
                    have st337 := st336.unm (s := 3) 8 rfl rfl (fun _ h => h) [0, 2] rfl
                    have st338 := st337.frzB (s := 3) 8 rfl (by simp) (fun _ h => h) [] rfl [0, 2] rfl rfl
                    refine then_normal ?_
                    obtain rfl := Option.some.inj h165
                    exact ⟨_, _, _, _, _, _, _, _, _, _, st338.sel [3] rfl [(2, 7), (0, 4)] rfl ⟨fun _ h => h, ⟨fun _ h => h, trivial⟩⟩⟩
                ·
                  refine st281.seg 1 (sc rfl (op_lit (opds := [.tmp 50]) rfl kS92 kY92 rfl rfl (by decide) (.cons (tp rfl) .nil)) <| .nil) [44, 51] rfl [(0, 4), (2, 7), (3, 8), (46, 5)] rfl ⟨fun _ h => h, ⟨fun _ h => h, ⟨fun _ h => h, ⟨fun _ h => h, trivial⟩⟩⟩⟩ (fun a339 w339 st339 => ?_)
                  refine aHN (st339.hkS (sb := 3) rfl) ?_
                  refine aH1 (i := 4) (by decide +kernel) rfl ?_
                  refine st339.seg 1 (sc rfl (xIaN rfl kS28 rfl cI (fun h => hA135 h rfl) p142) <| .nil) [44, 47, 51] rfl [(0, 4), (2, 7), (3, 8), (46, 5)] rfl ⟨fun _ h => h, ⟨fun _ h => h, ⟨fun _ h => h, ⟨fun _ h => h, trivial⟩⟩⟩⟩ (fun a340 w340 st340 => ?_)
                  refine aHN (st340.hkS (sb := 3) rfl) ?_
                  refine aH1 (i := 5) (by decide +kernel) rfl ?_
                  refine st340.seg 1 (sc rfl (xFa rfl kF94_5 (tp rfl)) <| .nil) [44, 48, 51] rfl [(0, 4), (2, 7), (3, 8), (46, 5)] rfl ⟨fun _ h => h, ⟨fun _ h => h, ⟨fun _ h => h, ⟨fun _ h => h, trivial⟩⟩⟩⟩ (fun a341 w341 st341 => ?_)
                  refine aHN (st341.hkS (sb := 3) rfl) ?_
                  refine aH1 (i := 6) (by decide +kernel) rfl ?_
                  refine st341.hdR (s := 46) 5 true (fun _ => ((PV.root.row rfl (fun h => hA135 h rfl) p142).fld owFile.f5)) rfl rfl (fun _ h => h) [0, 2, 3] rfl (fun g342 A342 c342 hA342 st342 => ?_)
                  refine st342.seg 1 (sc rfl (xLc (sb := 46) (.head _) rfl rfl rfl kT92 (tp rfl) rfl) <| .nil) [44, 49, 51] rfl [(0, 4), (2, 7), (3, 8), (46, 5)] rfl ⟨fun _ h => h, ⟨fun _ h => h, ⟨fun _ h => h, ⟨fun _ h => h, trivial⟩⟩⟩⟩ (fun a343 w343 st343 => ?_)
                  refine aHN (st343.hkS (sb := 3) rfl) ?_
                  refine aH1 (i := 9) (by decide +kernel) rfl ?_
                  refine st343.mvG (s := 49) (sb := 46) 5 6 ((PV.root.row rfl (fun h => hA135 h rfl) p142).fld owFile.f5) (.head _) rfl (fits_one rfl rfl) rfl (by simp) (by simp) (by decide) rfl (fun _ h => h) [44, 51] rfl [0, 2, 3] rfl rfl rfl rfl (fun G345 H345 st345 => ?_)
                  have st346 := st345.gs (Gs' := [oneB none, oneB none, oneB none, oneB none, G20, G345, H345, oneB (some b2), G141]) rfl
                  refine st346.tipR (s := 49) 6 rfl rfl (by simp) (fun _ h => h) [0, 2, 3, 46] rfl rfl (fun g347 st347 => ?_)
                  refine st347.app 6 rfl rfl kE92 rfl rfl rfl row_dt p154 [44] rfl [0, 2, 3, 46] rfl rfl (fun g348 M348 a348 w348 st348 => ?_)
                  have st349 := st348.gs (Gs' := [oneB none, oneB none, oneB none, oneB none, G20, G345, oneB g348, oneB (some b2), G141]) rfl
                  refine aHN (st349.hkS (sb := 3) rfl) ?_
                  refine aH1 (i := 10) (by decide +kernel) rfl ?_
                  refine st349.seg 1 (sc rfl (xIa (g := g135) rfl kS28 (tp rfl) cI rfl (fun h => hA135 h rfl) p157) <| .nil) [53] rfl [(0, 4), (2, 7), (3, 8), (46, 5), (52, 6)] rfl ⟨fun _ h => h, ⟨fun _ h => h, ⟨fun _ h => h, ⟨fun _ h => h, ⟨fun _ h => h, trivial⟩⟩⟩⟩⟩ (fun a350 w350 st350 => ?_)
                  refine aHN (st350.hkS (sb := 3) rfl) ?_
                  refine aH1 (i := 11) (by decide +kernel) rfl ?_
                  refine st350.seg 1 (sc rfl (xFa rfl kF94_5 (tp rfl)) <| .nil) [54] rfl [(0, 4), (2, 7), (3, 8), (46, 5), (52, 6)] rfl ⟨fun _ h => h, ⟨fun _ h => h, ⟨fun _ h => h, ⟨fun _ h => h, ⟨fun _ h => h, trivial⟩⟩⟩⟩⟩ (fun a351 w351 st351 => ?_)
                  refine aHN (st351.hkS (sb := 3) rfl) ?_
                  refine aH1 (i := 12) (by decide +kernel) rfl ?_
                  have st353 := st351.tipW (s := 52) 6 rfl rfl (fun _ h => h) [0, 2, 3, 46] rfl
                  refine st353.stH (sb := 46) (tv := 52) 5 6 rfl rfl rfl kT92 (by simp) (by simp) (by decide) (tp rfl) rfl rfl (fun _ h => h) (fun _ h => h) [] rfl [0, 2, 3] rfl rfl rfl (fun G352 w352 st352 => ?_)
                  have st354 := st352.gs (Gs' := [oneB none, oneB none, oneB none, oneB none, G20, G352, oneB none, oneB (some b2), G141]) rfl
                  refine aHN (st354.hkS (sb := 3) rfl) ?_
                  refine aH0 (by decide +kernel) ?_
                  refine st354.stG (s := 46) (sb := 3) 8 5 rfl (by simp) (by simp) (by decide) rfl rfl (fun _ h => h) (fun _ h => h) [] rfl [0, 2] rfl rfl rfl (fun G355 st355 => ?_)
                  have st356 := st355.gs (Gs' := [oneB none, oneB none, oneB none, oneB none, G20, oneB none, oneB none, oneB (some b2), G355]) rfl
                  refine blk_normal ?_
                  have st357 := st356.unm (s := 3) 8 rfl rfl (fun _ h => h) [0, 2] rfl
                  have st358 := st357.frzB (s := 3) 8 rfl (by simp) (fun _ h => h) [] rfl [0, 2] rfl rfl
                  refine then_normal ?_
                  obtain rfl := Option.some.inj h165
                  exact ⟨_, _, _, _, _, _, _, _, _, _, st358.sel [3] rfl [(2, 7), (0, 4)] rfl ⟨fun _ h => h, ⟨fun _ h => h, trivial⟩⟩⟩
            ·
              refine wp_skip ?_
              refine blk_normal ?_
              have st359 := st132.unm (s := 3) 8 rfl rfl (fun _ h => h) [0, 2] rfl
              have st360 := st359.frzB (s := 3) 8 rfl (by simp) (fun _ h => h) [41] rfl [0, 2] rfl rfl
              refine then_normal ?_
              obtain rfl := Option.some.inj h134
              exact ⟨_, _, _, _, _, _, _, _, _, _, st360.sel [3] rfl [(2, 7), (0, 4)] rfl ⟨fun _ h => h, ⟨fun _ h => h, trivial⟩⟩⟩
    ·
      refine wp_skip ?_
      have st361 := st16.unm (s := 3) 8 rfl rfl (fun _ h => h) [0, 2] rfl
      have st362 := st361.frzB (s := 3) 8 rfl (by simp) (fun _ h => h) [9] rfl [0, 2] rfl rfl
      refine then_normal ?_
      obtain rfl := Option.some.inj h18
      exact ⟨_, _, _, _, _, _, _, _, _, _, st362.sel [3] rfl [(2, 7), (0, 4)] rfl ⟨fun _ h => h, ⟨fun _ h => h, trivial⟩⟩⟩
  · rintro a13 w13 ⟨M13, q13_0, q13_1, q13_2, q13_3, q13_4, q13_5, q13_6, q13_7, q13_8, st13⟩
    have h363 := k13
    refine wp_seq ?_
    refine wp_region_list ?_
    refine st13.seg 1 (
      sc rfl (op_load rfl kT30 (tp rfl)) <| .nil) [55] rfl [(0, 4), (2, 7)] rfl ⟨fun _ h => h, ⟨fun _ h => h, trivial⟩⟩ (fun a364 w364 st364 => ?_)
    refine st364.store (sb := 2) 7 FldS.id rfl rfl rfl kT30 rfl rfl (tp rfl) rfl [] rfl [0] rfl rfl (fun M366 w366 st366 => ?_)
    refine wpList_nil ?_
    refine then_normal ?_
    refine wp_ret ?_
    exact st366.rsC (s := 0) 4 rfl kT30 rfl rfl (fun _ h => h) (bxr h363)

end Go.Proofs.YtionokffhhiicaaGreatDoor
