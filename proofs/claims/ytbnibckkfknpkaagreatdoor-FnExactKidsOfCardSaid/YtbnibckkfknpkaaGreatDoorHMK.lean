/-
  Plain laws: parents and last parts.
  Plain laws: the law of KidsOf.
  Plain laws: lists with each once, what is reached from some, and a loop that gathers it.
  Plain laws: needs and edges of names, the universe in which they lie.
  Plain laws: what is reached, missing, on rings; who uses a name.
  Plain laws: what the models of the reference's graph come to.
  Plain laws: what the models of the program's graph come to.
  Plain laws: what the laws of the kind 'returns the same' have in common.
  Laws of the kind: the program returns what the reference returns.
-/
import Derived.Test.YtbnibckkfknpkaaGreatDoorHI
import Derived.Test.YtbnibckkfknpkaaGreatDoorHJK
namespace Go.Proofs.YtbnibckkfknpkaaGreatDoor
open Go.RowKit

theorem lastByte (s : Str) (c : UInt8) (hs : s.l.length ≤ 1000000) : (∃ pre post, s.l = pre ++ c :: post ∧ c ∉ post ∧ m_strings_LastIndexByte s c = some (pre.length : Int)) ∨ (c ∉ s.l ∧ m_strings_LastIndexByte s c = some (-1)) := by
  have key : ∀ k, k ≤ s.l.length → c ∉ s.l.drop k → ∃ r, iterM (fun s6 => m_internal_bytealg_LastIndexByteString_s0 s c s6) (k + 1) ((k : Int) - 1) = some r ∧ ((∃ pre post, s.l = pre ++ c :: post ∧ c ∉ post ∧ r = .inr (pre.length : Int)) ∨ (c ∉ s.l ∧ r = .inl ())) := by
    intro k
    induction k with
    | zero =>
      intro _ hc
      refine ⟨.inl (), iterM_inr ?_, .inr ⟨by simpa using hc, rfl⟩⟩
      unfold m_internal_bytealg_LastIndexByteString_s0
      rw [if_neg (by simp [cmpI])]
    | succ k ih =>
      intro hk hc
      have hb : s.l[k]? = some s.l[k] := List.getElem?_eq_getElem (by omega)
      have hd : s.l.drop k = s.l[k] :: s.l.drop (k + 1) := List.drop_eq_getElem_cons (by omega)
      have e1 : ((k + 1 : Nat) : Int) - 1 = (k : Int) := by omega
      rw [e1]
      by_cases h : s.l[k] = c
      · refine ⟨.inr (k : Int), iterM_inr ?_, .inl ⟨s.l.take k, s.l.drop (k + 1), ?_, hc, by simp; omega⟩⟩
        · unfold m_internal_bytealg_LastIndexByteString_s0
          rw [if_pos (by simp [cmpI]), atI_nat, hb, Option.bind_some, if_pos (by simp [cmpB, h])]
        · rw [← h, ← hd, List.take_append_drop]
      · have hs1 : m_internal_bytealg_LastIndexByteString_s0 s c (k : Int) = some (.inl ((k : Int) - 1)) := by
          unfold m_internal_bytealg_LastIndexByteString_s0
          rw [if_pos (by simp [cmpI]), atI_nat, hb, Option.bind_some, if_neg (by simp [cmpB, h]), i64_of (by omega) (by omega), Option.bind_some]
        rw [iterM_inl hs1]
        exact ih (by omega) (by rw [hd]; simp only [List.mem_cons, not_or]; exact ⟨fun e => h e.symm, hc⟩)
  obtain ⟨r, h1, h2⟩ := key s.l.length (Nat.le_refl _) (by simp)
  have hl : m_strings_LastIndexByte s c = Option.bind (some r) (Sum.elim (fun _ => some (-1)) some) := by
    unfold m_strings_LastIndexByte m_internal_bytealg_LastIndexByteString
    rw [i64_of (by omega) (by omega), Option.bind_some, loopM_of h1 (by omega)]
    cases r <;> rfl
  rcases h2 with ⟨pre, post, e1, e2, rfl⟩ | ⟨e1, rfl⟩
  · exact .inl ⟨pre, post, e1, e2, hl⟩
  · exact .inr ⟨e1, hl⟩
theorem split_last {s : Str} {pre post : List UInt8} (h : s.l = pre ++ 46 :: post) (hp : (46 : UInt8) ∉ post) : splitAt s dot = splitAt ⟨pre⟩ dot ++ [⟨post⟩] := by
  have e : s = ⟨((⟨pre⟩ : Str).l ++ [46]) ++ (⟨post⟩ : Str).l⟩ := by
    cases s
    simp only at h ⊢
    rw [h]
    simp
  have e2 : splitAt ⟨post⟩ dot = [⟨post⟩] := by
    rw [splitAt_cutF]
    show (cutF 46 post).map Str.mk = _
    rw [cutF_one 46 post hp]
    rfl
  rw [e, split_append, e2]
theorem split_none {s : Str} (h : (46 : UInt8) ∉ s.l) : splitAt s dot = [s] := by
  rw [splitAt_cutF]
  show (cutF 46 s.l).map Str.mk = _
  rw [cutF_one 46 s.l h]
  rfl
theorem parent_of {s : Str} {pre post : List UInt8} (h : s.l = pre ++ 46 :: post) (hp : (46 : UInt8) ∉ post) : parent s = ⟨pre⟩ ∧ lastPart s = ⟨post⟩ := by
  unfold parent lastPart
  rw [split_last h hp]
  constructor
  · rw [List.length_append, List.length_singleton, Nat.add_sub_cancel, List.take_left]
    exact join_split ⟨pre⟩
  · simp
theorem parent_none {s : Str} (h : (46 : UInt8) ∉ s.l) : parent s = emptyS ∧ lastPart s = s := by
  unfold parent lastPart
  rw [split_none h]
  exact ⟨rfl, rfl⟩
theorem ParentOf_eq {s : Str} (hv : validName s = true) : m_impl_ParentOf s = some (parent s) := by
  have hl := validName_len hv
  unfold m_impl_ParentOf
  rcases lastByte s 46 (by omega) with ⟨pre, post, e1, e2, e3⟩ | ⟨e1, e3⟩
  · rw [show m_strings_LastIndexByte s (UInt8.ofNat 46) = some (pre.length : Int) from e3, Option.bind_some, ValidName_eq (validName_sho hv), Option.bind_some, hv, if_neg (by simp [cmpI]), cutHO_nat (by rw [e1, List.length_append]; omega), Option.bind_some, (parent_of e1 e2).1, e1, List.take_left]
  · rw [show m_strings_LastIndexByte s (UInt8.ofNat 46) = some (-1) from e3, Option.bind_some, ValidName_eq (validName_sho hv), Option.bind_some, hv, if_pos (by simp [cmpI]), (parent_none e1).1]
    rfl
theorem LastOf_eq {s : Str} (hv : validName s = true) : m_impl_LastOf s = some (lastPart s) := by
  have hl := validName_len hv
  unfold m_impl_LastOf
  rw [ValidName_eq (validName_sho hv), Option.bind_some, hv, if_neg (by decide)]
  rcases lastByte s 46 (by omega) with ⟨pre, post, e1, e2, e3⟩ | ⟨e1, e3⟩
  · have hlen : pre.length + 1 ≤ s.l.length := by rw [e1, List.length_append, List.length_cons]; omega
    rw [show m_strings_LastIndexByte s (UInt8.ofNat 46) = some (pre.length : Int) from e3, Option.bind_some, i64_succ (by omega), Option.bind_some, cutLO_nat hlen, Option.bind_some, (parent_of e1 e2).2, e1]
    congr 2
    rw [show pre ++ 46 :: post = (pre ++ [46]) ++ post by simp, List.drop_left' (by simp)]
  · rw [show m_strings_LastIndexByte s (UInt8.ofNat 46) = some (-1) from e3, Option.bind_some, show ((-1 : Int) + 1) = ((0 : Nat) : Int) from rfl, i64_of (by omega) (by omega), Option.bind_some, cutLO_nat (by omega), Option.bind_some, (parent_none e1).2]
    rfl

/-! ### Kids -/

theorem names_small {t : Tree} (hv : validTree t = true) : (names t).length ≤ 36 := by
  have key : ∀ (l : List File) (out : List Str), (∀ f ∈ l, validFile f = true) → (l.foldl (fun out f => (above (moduleName f)).foldl insertT out) out).length ≤ out.length + 3 * l.length := by
    intro l
    induction l with
    | nil => intro out _; simp
    | cons f l ih =>
      intro out hl
      rw [List.foldl_cons]
      have h1 := ih ((above (moduleName f)).foldl insertT out) fun g hg => hl g (List.mem_cons_of_mem _ hg)
      have h2 := insertAll_len (above (moduleName f)) out
      have h3 := (validName_parts (validFile_mod (hl f (List.mem_cons_self ..)))).2
      rw [above_len] at h2
      rw [List.length_cons]
      omega
  have h1 := key t.files [] fun f hf => validTree_file hv hf
  have h2 := validTree_len hv
  rw [List.length_nil] at h1
  exact Nat.le_trans h1 (by omega)
theorem found_small (t : Tree) (path : List Int) : (foundNames t path).length ≤ 36 := by
  unfold foundNames
  split
  · exact Nat.zero_le _
  · rename_i h
    have hv : validTree t = true := by
      cases h2 : validTree t with
      | true => rfl
      | false => rw [h2] at h; exact absurd rfl h
    exact Nat.le_trans (List.length_filter_le _ _) (names_small hv)
theorem found_valid {t : Tree} {path : List Int} {n : Str} (h : n ∈ foundNames t path) : validName n = true := by
  unfold foundNames at h
  split at h
  · cases h
  · rename_i h0
    have hv : validTree t = true := by
      cases h2 : validTree t with
      | true => rfl
      | false => rw [h2] at h0; exact absurd rfl h0
    exact names_valid hv (List.mem_filter.1 h).1
def isPk (t : Tree) (path : List Int) (p : Str) : Bool := cmpI .eql (findOf t path p).kind 2 || cmpI .eql (findOf t path p).kind 3
theorem IsPackage_eq {t : Tree} (ht : smTree t) {path : List Int} (hp : path.length ≤ 1048576) {p : Str} (hn : sho p) : m_impl_IsPackage t path p = some (isPk t path p) := by
  unfold m_impl_IsPackage
  rw [FindSpec_eq ht hp hn, Option.bind_some]
  rfl
theorem spec_IsPackage_eq {t : Tree} (ht : smTree t) {path : List Int} (hp : path.length ≤ 1048576) {p : Str} (hn : sho p) : m_spec_IsPackage t path p = some (isPk t path p) := by
  unfold m_spec_IsPackage isPk findOf
  rw [show m_spec_validTree t = some (validTree t) from if_pos ht, Option.bind_some, show m_spec_validPath path = some (validPath path) from if_pos trivial, show m_spec_validName p = some (validName p) from if_pos hn.mid, show m_spec_find t path p = some (find t.files path p) from if_pos ⟨by omega, hn.mid⟩]
  cases validTree t with
  | false => rfl
  | true =>
    cases validPath path with
    | false => rfl
    | true => cases validName p <;> rfl
def badK (t : Tree) (path : List Int) (p : Str) : Bool := (!validTree t || !validPath path) || (decide (p ≠ (⟨[]⟩ : Str)) && !isPk t path p)
def ofPar (p : Str) (n : Str) : Bool := decide (parent n = p)
def kidsL (t : Tree) (path : List Int) (p : Str) : List Str := ((foundNames t path).filter (ofPar p)).map lastPart
def kids (t : Tree) (path : List Int) (p : Str) : List Str := if badK t path p = true then [] else ordered (kidsL t path p)
theorem kidsL_small (t : Tree) (path : List Int) (p : Str) : (kidsL t path p).length ≤ 36 := by
  unfold kidsL
  rw [List.length_map]
  exact Nat.le_trans (List.length_filter_le _ _) (found_small t path)
theorem KidsOf_eq {t : Tree} (ht : smTree t) {path : List Int} (hp : path.length ≤ 1048576) {p : Str} (hn : sho p) : m_impl_KidsOf t path p = some (kids t path p) := by
  have hsm := found_small t path
  have hl : loopM (fun s17 => m_impl_KidsOf_s0 p (foundNames t path) s17) ([], (0 : Int)) = some (kidsL t path p) := by
    refine loop_upto (b := kidsL t path p) (foundNames t path).length (fun k => ((((foundNames t path).take k).filter (ofPar p)).map lastPart, (k : Int))) (fun k hk => ?_) (by unfold m_impl_KidsOf_s0; simp only; rw [lss_nat, if_neg (by simp), List.take_length]; rfl) (by omega) rfl
    obtain ⟨n, hx, hm⟩ := get_some hk
    have hv := found_valid hm
    have hlen : ((((foundNames t path).take k).filter (ofPar p)).map lastPart).length ≤ 36 := by
      rw [List.length_map]
      refine Nat.le_trans (List.length_filter_le _ _) ?_
      rw [List.length_take]; omega
    unfold m_impl_KidsOf_s0
    simp only
    rw [lss_nat, if_pos (decide_eq_true hk), atI_nat, hx, Option.bind_some, ParentOf_eq hv, Option.bind_some, LastOf_eq hv, i64_succ (k := k) (by omega), filter_next hx, List.map_append]
    generalize (((foundNames t path).take k).filter (ofPar p)).map lastPart = out at hlen ⊢
    rw [show decide (parent n = p) = ofPar p n from rfl]
    cases ofPar p n with
    | true => rw [if_pos rfl, if_pos rfl, Option.bind_some, appO_of (by simp; omega) (by simp; omega)]; rfl
    | false => rw [if_neg (by decide), if_neg (by decide), List.map_nil, List.append_nil]; rfl
  unfold m_impl_KidsOf kids badK
  rw [ValidTree_eq ht, Option.bind_some, ValidPath_eq hp, IsPackage_eq ht hp hn, FoundNames_eq ht hp]
  have hk := kidsL_small t path p
  have hend : (Option.bind (α := List Str) ((some (foundNames t path)).bind fun v14 => loopM (fun s17 => m_impl_KidsOf_s0 p v14 s17) ([], (0 : Int))) fun o13 => (m_impl_sorted o13).bind fun v48 => some v48) = some (ordered (kidsL t path p)) := by
    rw [Option.bind_some, hl, Option.bind_some, sorted_eq (by omega), Option.bind_some]
  cases validTree t with
  | false => rfl
  | true =>
    cases validPath path with
    | false => rfl
    | true =>
      cases decide (p ≠ (⟨[]⟩ : Str)) with
      | false => exact hend
      | true =>
        cases isPk t path p with
        | false => rfl
        | true => exact hend
end Go.Proofs.YtbnibckkfknpkaaGreatDoor

-- @end
namespace Go.Proofs.YtbnibckkfknpkaaGreatDoor
open Go.RowKit

theorem spec_KidsOf_eq {t : Tree} (ht : smTree t) {path : List Int} (hp : path.length ≤ 1048576) {p : Str} (hn : sho p) : m_spec_KidsOf t path p = some (kids t path p) := by
  unfold m_spec_KidsOf kids badK
  rw [show m_spec_validTree t = some (validTree t) from if_pos ht, Option.bind_some, show m_spec_validPath path = some (validPath path) from if_pos trivial, spec_IsPackage_eq ht hp hn, show m_spec_names t = some (names t) from if_pos ht]
  cases hv : validTree t with
  | false => rfl
  | true =>
    cases hvp : validPath path with
    | false => rfl
    | true =>
      have hF : foundNames t path = (names t).filter (isFound t.files path) := by unfold foundNames; rw [hv, hvp]; rfl
      have hsm := names_small hv
      have hl : loopM (fun s18 => m_spec_KidsOf_s0 t path p (names t) s18) ([], (0 : Int)) = some ((((names t).filter (fun n => ofPar p n && isFound t.files path n)).map lastPart).foldl insertT []) := by
        refine loop_upto (b := (((names t).filter (fun n => ofPar p n && isFound t.files path n)).map lastPart).foldl insertT []) (names t).length (fun k => (((((names t).take k).filter (fun n => ofPar p n && isFound t.files path n)).map lastPart).foldl insertT [], (k : Int))) (fun k hk => ?_) (by unfold m_spec_KidsOf_s0; simp only; rw [lss_nat, if_neg (by simp), List.take_length]) (by omega) rfl
        obtain ⟨n, hx, hm⟩ := get_some hk
        have hnv := names_valid hv hm
        have hmid : mid n := (validName_sho hnv).mid
        have hlen : (((((names t).take k).filter (fun n => ofPar p n && isFound t.files path n)).map lastPart).foldl insertT []).length ≤ 36 := by
          refine Nat.le_trans (insertAll_len _ _) ?_
          rw [List.length_nil, List.length_map]
          have := List.length_filter_le (fun n => ofPar p n && isFound t.files path n) ((names t).take k)
          rw [List.length_take] at this
          omega
        unfold m_spec_KidsOf_s0
        simp only
        rw [lss_nat, if_pos (decide_eq_true hk), atI_nat, hx, Option.bind_some, show m_spec_parent n = some (parent n) from if_pos hmid, Option.bind_some, i64_succ (k := k) (by omega), filter_next hx, List.map_append, List.foldl_append]
        generalize ((((names t).take k).filter (fun n => ofPar p n && isFound t.files path n)).map lastPart).foldl insertT [] = out at hlen ⊢
        rw [show decide (parent n = p) = ofPar p n from rfl]
        cases ofPar p n with
        | false => rfl
        | true =>
          rw [show ((true : Bool) == true) = true from rfl, gO_true, Option.bind_some, gO_true, show m_spec_find t path n = some (find t.files path n) from if_pos ⟨by omega, hmid⟩, Option.bind_some, show cmpI .neq (find t.files path n).kind 0 = isFound t.files path n from rfl]
          cases isFound t.files path n with
          | false => rfl
          | true => rw [show (true && true) = true from rfl, if_pos rfl, Option.bind_some, show m_spec_last n = some (lastPart n) from if_pos hmid, Option.bind_some, show m_spec_insertText out (lastPart n) = some (insertT out (lastPart n)) from if_pos (by omega)]; rfl
      have hend : ((some (names t)).bind fun v13 => Option.bind (α := List Str) (loopM (fun s18 => m_spec_KidsOf_s0 t path p v13 s18) ([], (0 : Int))) fun o16 => some o16) = some (ordered (kidsL t path p)) := by
        rw [Option.bind_some, hl, Option.bind_some]
        congr 1
        refine asc_ext (insertAll_asc List.Pairwise.nil) (ordered_spec _).1 fun x => ?_
        rw [insertAll_iff, (ordered_spec _).2]
        unfold kidsL
        rw [hF, List.filter_filter]
        simp
      cases decide (p ≠ (⟨[]⟩ : Str)) with
      | false => exact hend
      | true =>
        cases isPk t path p with
        | false => rfl
        | true => exact hend
end Go.Proofs.YtbnibckkfknpkaaGreatDoor

namespace Go.Proofs.YtbnibckkfknpkaaGreatDoor
open Go.RowKit

section
variable {α : Type} [DecidableEq α]
/-- What lies on ways from some. -/
inductive Way (E : α → List α) (l : List α) : α → Prop
  | here {x} : x ∈ l → Way E l x
  | step {x y} : Way E l x → y ∈ E x → Way E l y
omit [DecidableEq α] in
theorem Way.mono {E : α → List α} {l m : List α} (h : ∀ x ∈ l, Way E m x) {x : α} (hw : Way E l x) : Way E m x := by
  induction hw with
  | here hx => exact h _ hx
  | step _ hy ih => exact .step ih hy
end
end Go.Proofs.YtbnibckkfknpkaaGreatDoor

namespace Go.Proofs.YtbnibckkfknpkaaGreatDoor
open Go.RowKit

end Go.Proofs.YtbnibckkfknpkaaGreatDoor

namespace Go.Proofs.YtbnibckkfknpkaaGreatDoor
open Go.RowKit

section
variable {t : Tree} {path : List Int} {s : Str}
end
section
variable {t : Tree} {path : List Int} {s : Str}
end
end Go.Proofs.YtbnibckkfknpkaaGreatDoor

namespace Go.Proofs.YtbnibckkfknpkaaGreatDoor
open Go.RowKit

/-! ### Loops that gather -/

/-! ### The reference -/

section
variable {t : Tree} {path : List Int}
variable {s : Str}
end
end Go.Proofs.YtbnibckkfknpkaaGreatDoor

namespace Go.Proofs.YtbnibckkfknpkaaGreatDoor
open Go.RowKit

section
variable {t : Tree} {path : List Int}
variable {s : Str}
/-! ### Simple bodies -/

/-! ### How long -/

theorem kids_size (t : Tree) (path : List Int) (s : Str) : (kids t path s).length ≤ 1000 := by
  have h1 := kidsL_small t path s
  have h2 := ordered_len (kidsL t path s)
  unfold kids
  split
  · exact Nat.zero_le _
  · omega
end
end Go.Proofs.YtbnibckkfknpkaaGreatDoor

namespace Go.Proofs.YtbnibckkfknpkaaGreatDoor

theorem sm_tree {t : Tree} (h : totTree t ≤ 1048576) : smTree t := by
  have h1 : totTree t = totFileS t.files + 0 := rfl
  have h2 : totFileS t.files = t.files.length + sumL totFile t.files := rfl
  refine ⟨by omega, fun f hf => ?_⟩
  have h3 := sumL_mem (f := totFile) hf
  have h4 : totFile f = f.pkg.l.length + (f.name.l.length + (totStmtS f.body + (0))) := rfl
  have h5 : totStmtS f.body = f.body.length + sumL totStmt f.body := rfl
  refine ⟨by omega, by omega, by omega, fun s hs => ?_⟩
  have h6 := sumL_mem (f := totStmt) hs
  have h7 : totStmt s = s.module.l.length + (s.name.l.length + (0)) := rfl
  exact ⟨by omega, by omega⟩

/-- A law that looks at a list that is handed back, and at what was handed in. -/
theorem tail_names {g : List Str} (hg : g.length ≤ 1125899906842624) {H : Option (List Str)} (hH : H = some g) :
    ((m_laws_markStringS g (1 : Int)).bind fun v86 =>
      (m_laws_heldStringS v86.1 (1 : Int)).bind fun v90 =>
      if (cmpI .lss v90 (0 : Int)) = true then (some false)
      else (if (cmpI .neq v90 v86.2) = true then (some false)
      else (H.bind fun v103 =>
      (m_laws_eqStringS v103 g).bind fun v108 =>
      if (!v108) = true then (some false)
      else ((m_laws_heldStringS v86.1 (1 : Int)).bind fun v115 =>
      if (cmpI .lss v115 (0 : Int)) = true then (some false)
      else (if (cmpI .neq v115 v86.2) = true then (some false)
      else (some true)))))) = some true := by
  obtain ⟨y, k', h1, h2, h3, h4⟩ := markStringS_ok (x := g) (k := 1) hg (by omega) (by omega)
  have h5 : cmpI .lss k' 0 = false := by simp [cmpI]; omega
  simp only [h1, Option.bind_some, h4, h5, neq_self, hH, eqStringS_eq (x := g) (y := g) (by omega), Bool.false_eq_true, if_false, decide_true, Bool.not_true]
end Go.Proofs.YtbnibckkfknpkaaGreatDoor

namespace Go.Proofs.YtbnibckkfknpkaaGreatDoor
open Go.RowKit

theorem law_KidsOf {t : Tree} {p : List Int} {s : Str} (ht : Okd t) : m_laws_FnExactKidsOf t p s = some true := by
  unfold m_laws_FnExactKidsOf
  cases hp : cmpI .gtr (p.length : Int) 1048576 with
  | true => rw [if_pos rfl]
  | false =>
    have hp' : p.length ≤ 1048576 := by have := of_decide_eq_false hp; omega
    rw [if_neg (by decide)]
    cases hq : cmpI .gtr (s.l.length : Int) 1048576 with
    | true => rw [if_pos rfl]
    | false =>
      have hq' : s.l.length ≤ 1048576 := by have := of_decide_eq_false hq; omega
      have hsh : sho s := by unfold sho; omega
      rw [if_neg (by decide), szTree_eq ht (by omega) (by omega), Option.bind_some]
      cases hs : cmpI .lss (szR (totTree t) 1048576) 0 with
      | true => rw [if_pos rfl]
      | false =>
        have hs' : ¬ szR (totTree t) 1048576 < 0 := of_decide_eq_false hs
        obtain ⟨h1, _⟩ := szR_nn (t := totTree t) (left := 1048576) (by omega)
        have h2 : totTree t ≤ 1048576 := by omega
        have hsm := sm_tree h2
        have e1 := toTree_eq h2
        have e2 : m_laws_toIntS p = some p := toIntS_eq (by unfold totIntS; exact hp')
        have e3 : m_spec_KidsOf t p s = some (kids t p s) := spec_KidsOf_eq hsm hp' hsh
        have e4 : m_impl_KidsOf t p s = some (kids t p s) := KidsOf_eq hsm hp' hsh
        have e6 : m_laws_eqTree t t = some true := by rw [eqTree_eq (by omega)]; simp
        have e7 : m_laws_eqIntS p p = some true := by rw [eqIntS_eq (by omega)]; simp
        have hl : (kids t p s).length ≤ 1125899906842624 := Nat.le_trans (kids_size t p s) (by decide)
        have e5 : m_laws_eqStringS (kids t p s) (kids t p s) = some true := by rw [eqStringS_eq (by omega)]; simp
        obtain ⟨y1, k1, m1, a1, b1⟩ := markTree_ok (x := t) (k := 1) h2 (by omega) (by omega)
        obtain ⟨y2, k2, m2, a2, b2⟩ := markIntS_ok (x := p) (k := k1) (by omega) (by omega) (by omega)
        have hk : cmpI .lss k2 0 = false := by simp [cmpI]; omega
        rw [if_neg (by decide), e1, Option.bind_some, e2, Option.bind_some, e3, Option.bind_some, Option.bind_some, Option.bind_some, e4, Option.bind_some, e5, Option.bind_some, if_neg (by decide), Option.bind_some, e6, Option.bind_some, if_neg (by decide), Option.bind_some, e7, Option.bind_some, if_neg (by decide), m1, Option.bind_some]
        simp only
        rw [m2, Option.bind_some]
        simp only
        rw [hk, show ((false == false) : Bool) = true from rfl, gO_true, Option.bind_some, if_neg (by decide)]
        exact tail_names hl e4

theorem FnExactKidsOf_true (t : Tree) (p : List Int) (s : Str) : Fn Tryz.prog 4 [dt t, dt p, dt s] (dt true) := .okd (x := t) (by simp) fun ht => laws_FnExactKidsOf_w (law_KidsOf ht)

end Go.Proofs.YtbnibckkfknpkaaGreatDoor
