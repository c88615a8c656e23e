/-
  Plain laws: what the models of the program's own functions come to. Names.
  Plain laws: cuts of texts.
  Plain laws: names.
  Plain laws: trees and paths.
  Plain laws: what is found.
  Plain laws: names that are found.
  Plain laws: order, and the program's lists of names.
  Plain laws: the program's lists of names, and the looks into two trees.
  Plain laws, for whatever types: copies, comparisons, sizes, marks and what is held, as loops over lists.
  Plain laws: steps of the laws' own helpers, whatever the type.
  What the laws' own helpers come to, in plain Lean: printed by a program of our own (wip/genlaws.py).
  The law of StaleDirs, in plain Lean.
-/
import Derived.Test.YtionokffhhiicaaGreatDoorHF
import Derived.Test.YtionokffhhiicaaGreatDoorHB
import Derived.Test.YtionokffhhiicaaGreatDoorHG
import Derived.Test.YtionokffhhiicaaGreatDoorHJ
namespace Go.Proofs.YtionokffhhiicaaGreatDoor

/-! ### Rules -/
section
variable {α β σ S : Type}
theorem atI_nat (xs : List α) (k : Nat) : atI xs (k : Int) = xs[k]? := by simp [atI]
theorem i64_of {n : Int} (h1 : -9223372036854775808 ≤ n) (h2 : n ≤ 9223372036854775807) : i64 n = some n := if_pos ⟨h1, h2⟩
theorem i64_succ {k : Nat} (h : k < 4611686018427387904) : i64 ((k : Int) + 1) = some ((k + 1 : Nat) : Int) := by rw [i64_of (by omega) (by omega)]; rfl
theorem gO_some [Inhabited α] (g : Bool) (x : α) : gO g (some x) = some (if g = true then x else default) := by unfold gO; split <;> rfl
theorem gO_true [Inhabited α] (e : Option α) : gO true e = e := rfl
theorem lss_nat (k n : Nat) : cmpI .lss (k : Int) (n : Int) = decide (k < n) := by simp [cmpI]
theorem appO_of {b : Nat} {xs ys : List α} (h : (xs.length + ys.length) * b ≤ 140737488355328) (h2 : xs.length + ys.length ≤ 9223372036854775807) : appO b xs ys = some (xs ++ ys) := if_pos ⟨h, h2⟩
theorem cutHO_nat {s : Str} {k : Nat} (h : k ≤ s.l.length) : cutHO s (k : Int) = some ⟨s.l.take k⟩ := by unfold cutHO; rw [if_pos ⟨by omega, by omega⟩]; rfl
theorem cutLO_nat {s : Str} {k : Nat} (h : k ≤ s.l.length) : cutLO s (k : Int) = some ⟨s.l.drop k⟩ := by unfold cutLO; rw [if_pos ⟨by omega, by omega⟩]; rfl
theorem sliHO_nat {xs : List α} {k : Nat} (h : k ≤ xs.length) : sliHO xs (k : Int) = some (xs.take k) := by unfold sliHO; rw [if_pos ⟨by omega, by omega⟩]; rfl
theorem setO_nat {xs : List α} {k : Nat} {y : α} (h : k < xs.length) : setO xs (k : Int) y = some (xs.set k y) := by unfold setO; rw [if_pos ⟨by omega, by omega⟩]; rfl
theorem catO_of {m n : Str} (h : m.l.length + n.l.length ≤ 9223372036854775807) : catO m n = some ⟨m.l ++ n.l⟩ := if_pos h
theorem iterM_inl {step : S → Option (S ⊕ β)} {s s' : S} {n : Nat} (h : step s = some (.inl s')) : iterM step (n + 1) s = iterM step n s' := by rw [iterM, h]
theorem iterM_inr {step : S → Option (S ⊕ β)} {s : S} {b : β} {n : Nat} (h : step s = some (.inr b)) : iterM step (n + 1) s = some b := by rw [iterM, h]

theorem iterM_mono {step : S → Option (S ⊕ β)} {r : β} : ∀ (m j : Nat) (s : S), iterM step m s = some r → iterM step (m + j) s = some r := by
  intro m
  induction m with
  | zero => intro j s h; simp [iterM] at h
  | succ m ih =>
    intro j s h
    rw [show m + 1 + j = (m + j) + 1 by omega]
    unfold iterM at h ⊢
    split at h
    · cases h
    · exact ih j _ h
    · exact h
theorem loopM_of {step : S → Option (S ⊕ β)} {r : β} {m : Nat} {s : S} (h : iterM step m s = some r) (hm : m ≤ 1152921504606846976) : loopM step s = some r := by
  unfold loopM
  have := iterM_mono m (1152921504606846976 - m) s h
  rwa [show m + (1152921504606846976 - m) = 1152921504606846976 by omega] at this

/-- A list gone through from its head, with a state; a round may end it. -/
def runL (R : Nat → σ → α → σ ⊕ β) (fin : σ → β) : Nat → σ → List α → β
  | _, s, [] => fin s
  | k, s, x :: xs => match R k s x with
    | .inl s' => runL R fin (k + 1) s' xs
    | .inr b => b
theorem loop_run {step : S → Option (S ⊕ β)} (xs : List α) (mk : σ → Nat → S) (R : Nat → σ → α → σ ⊕ β) (fin : σ → β) (Inv : Nat → σ → Prop)
    (h : ∀ k s x, xs[k]? = some x → k < xs.length → Inv k s → match R k s x with
      | .inl s' => step (mk s k) = some (.inl (mk s' (k + 1))) ∧ Inv (k + 1) s'
      | .inr b => step (mk s k) = some (.inr b))
    (hend : ∀ s, Inv xs.length s → step (mk s xs.length) = some (.inr (fin s))) {s0 : σ} (h0 : Inv 0 s0) (hlen : xs.length < 576460752303423488) : loopM step (mk s0 0) = some (runL R fin 0 s0 xs) := by
  have key : ∀ m k s, k + m = xs.length → Inv k s → iterM step (m + 1) (mk s k) = some (runL R fin k s (xs.drop k)) := by
    intro m
    induction m with
    | zero =>
      intro k s hk hi
      have : k = xs.length := by omega
      subst this
      rw [List.drop_length, runL, iterM, hend s hi]
    | succ m ih =>
      intro k s hk hi
      have hlt : k < xs.length := by omega
      have hx : xs[k]? = some xs[k] := List.getElem?_eq_getElem hlt
      rw [List.drop_eq_getElem_cons hlt, runL, iterM]
      have hr := h k s xs[k] hx hlt hi
      cases e : R k s xs[k] with
      | inl s' =>
        rw [e] at hr
        simp only at hr
        rw [hr.1]
        exact ih (k + 1) s' (by omega) hr.2
      | inr b =>
        rw [e] at hr
        simp only at hr
        rw [hr]
  exact loopM_of (key xs.length 0 s0 (by omega) h0) (by omega)

/-- A search: no state. -/
theorem loop_find {step : Int → Option (Int ⊕ β)} (xs : List α) (R : Nat → α → Option β) (e : β)
    (h : ∀ k x, xs[k]? = some x → k < xs.length → step (k : Int) = some (match R k x with | none => .inl ((k + 1 : Nat) : Int) | some b => .inr b))
    (hend : step (xs.length : Int) = some (.inr e)) (hlen : xs.length < 576460752303423488) {s : Int} (hs : s = 0) :
    loopM step s = some (runL (fun k (_ : Unit) x => match R k x with | none => .inl () | some b => .inr b) (fun _ => e) 0 () xs) := by
  subst hs
  refine loop_run (σ := Unit) xs (fun _ k => (k : Int)) _ _ (fun _ _ => True) (fun k s x hx hlt _ => ?_) (fun _ _ => hend) trivial hlen
  have := h k x hx hlt
  cases hR : R k x with
  | none => rw [hR] at this; exact ⟨this, trivial⟩
  | some b => rw [hR] at this; exact this

/-- A search that ends with one answer. -/
theorem runL_any (p : α → Bool) (b e : β) : ∀ (k : Nat) (xs : List α), runL (fun _ (_ : Unit) x => match (if p x = true then some b else none) with | none => .inl () | some b => .inr b) (fun _ => e) k () xs = if xs.any p = true then b else e
  | _, [] => rfl
  | k, x :: xs => by
    cases h : p x with
    | true => simp [runL, h]
    | false => simp only [runL, h]; rw [List.any_cons, h, Bool.false_or]; exact runL_any p b e (k + 1) xs
theorem loop_any {step : Int → Option (Int ⊕ β)} (xs : List α) (p : α → Bool) (b e : β)
    (h : ∀ k x, xs[k]? = some x → k < xs.length → step (k : Int) = some (if p x = true then .inr b else .inl ((k + 1 : Nat) : Int)))
    (hend : step (xs.length : Int) = some (.inr e)) (hlen : xs.length < 576460752303423488) {s : Int} (hs : s = 0) :
    loopM step s = some (if xs.any p = true then b else e) := by
  rw [loop_find xs (fun _ x => if p x = true then some b else none) e (fun k x hx hlt => ?_) hend hlen hs, runL_any]
  rw [h k x hx hlt]
  cases p x <;> rfl
theorem runL_idx (p : α → Bool) (f : Int → β) (e : β) : ∀ (k : Nat) (xs : List α), runL (fun k (_ : Unit) x => match (if p x = true then some (f k) else none) with | none => .inl () | some b => .inr b) (fun _ => e) k () xs = (match xs.findIdx? p with | some i => f ((k + i : Nat) : Int) | none => e)
  | _, [] => rfl
  | k, x :: xs => by
    cases h : p x with
    | true => simp [runL, h, List.findIdx?_cons]
    | false =>
      simp only [runL, h, List.findIdx?_cons, Bool.false_eq_true, if_false]
      rw [runL_idx p f e (k + 1) xs]
      cases xs.findIdx? p with
      | none => rfl
      | some i => simp only [Option.map_some]; congr 1; omega
/-- A search for a place. -/
theorem loop_idx {step : Int → Option (Int ⊕ β)} (xs : List α) (p : α → Bool) (f : Int → β) (e : β)
    (h : ∀ k x, xs[k]? = some x → k < xs.length → step (k : Int) = some (if p x = true then .inr (f k) else .inl ((k + 1 : Nat) : Int)))
    (hend : step (xs.length : Int) = some (.inr e)) (hlen : xs.length < 576460752303423488) {s : Int} (hs : s = 0) :
    loopM step s = some (match xs.findIdx? p with | some i => f (i : Int) | none => e) := by
  rw [loop_find xs (fun k x => if p x = true then some (f k) else none) e (fun k x hx hlt => ?_) hend hlen hs, runL_idx]
  · cases xs.findIdx? p <;> simp
  · rw [h k x hx hlt]
    cases p x <;> rfl
end

/-! ### Parts of names -/

theorem ValidPart_eq {s : Str} (hs : mid s) : m_impl_ValidPart s = some (validPart s) := by
  unfold mid at hs
  have hl : loopM (fun s4 => m_impl_ValidPart_s0 s s4) 0 = some (if s.l.any (fun b => !low b) = true then .inr false else .inl ()) := by
    refine loop_any s.l _ _ _ (fun k x hx hlt => ?_) ?_ (by omega) rfl
    · unfold m_impl_ValidPart_s0
      rw [lss_nat, if_pos (decide_eq_true hlt), atI_nat, hx, Option.bind_some, gO_some, Option.bind_some, i64_succ (by omega)]
      unfold low
      generalize cmpB .lss x (UInt8.ofNat 97) = c1
      cases c1 with
      | true => rfl
      | false =>
        rw [if_pos (show (false == false) = true from rfl)]
        generalize cmpB .gtr x (UInt8.ofNat 122) = c2
        cases c2 <;> rfl
    · unfold m_impl_ValidPart_s0
      rw [lss_nat, if_neg (by simp)]
  unfold m_impl_ValidPart
  rw [hl, Option.bind_some]
  unfold validPart
  cases h : s.l.any (fun b => !low b) with
  | true =>
    have : s.l.all low = false := by
      rw [Bool.eq_false_iff]
      intro h2
      rw [List.any_eq_true] at h
      obtain ⟨b, hb, hb2⟩ := h
      rw [List.all_eq_true.1 h2 b hb] at hb2
      cases hb2
    simp [this]
  | false =>
    have : s.l.all low = true := by
      rw [List.all_eq_true]
      intro b hb
      have := List.any_eq_false.1 h b hb
      simpa using this
    simp only [Bool.false_eq_true, if_false, Sum.elim_inl, m_impl_within, Option.bind_some, this, Bool.and_true, inR]
    simp [cmpI]

end Go.Proofs.YtionokffhhiicaaGreatDoor

namespace Go.Proofs.YtionokffhhiicaaGreatDoor

/-! ### Cuts at a byte -/

def cutF (c : UInt8) : List UInt8 → List (List UInt8)
  | [] => [[]]
  | b :: l => if b == c then [] :: cutF c l else match cutF c l with
    | h :: t => (b :: h) :: t
    | [] => [[b]]
theorem cutF_cons (c b : UInt8) (l : List UInt8) : cutF c (b :: l) = if b == c then [] :: cutF c l else match cutF c l with
    | h :: t => (b :: h) :: t
    | [] => [[b]] := rfl
theorem cutF_ne (c : UInt8) : ∀ l, cutF c l ≠ []
  | [] => by simp [cutF]
  | b :: l => by
    unfold cutF
    split
    · simp
    · split <;> simp
theorem cutF_len (c : UInt8) : ∀ l, (cutF c l).length = l.count c + 1
  | [] => by simp [cutF]
  | b :: l => by
    unfold cutF
    cases h : b == c with
    | true =>
      simp only [if_true, List.length_cons, cutF_len c l]
      rw [List.count_cons, h]; simp
    | false =>
      simp only [Bool.false_eq_true, if_false]
      rw [List.count_cons, h]
      simp only [Bool.false_eq_true, if_false, Nat.add_zero]
      rw [← cutF_len c l]
      cases hc : cutF c l with
      | nil => exact absurd hc (cutF_ne c l)
      | cons h t => rfl
/-- The fold of the reference is this recursion. -/
theorem splitRun_cutF (c : UInt8) : ∀ (l : List UInt8) (st : List Str × Str), (let r := l.foldl (splitStep c) st; r.1 ++ [r.2]) = st.1 ++ (match cutF c l with | h :: t => (⟨st.2.l ++ h⟩ : Str) :: t.map Str.mk | [] => [])
  | [], st => by simp [cutF]
  | b :: l, st => by
    rw [List.foldl_cons]
    have ih := splitRun_cutF c l (splitStep c st b)
    simp only at ih ⊢
    rw [ih]
    unfold splitStep
    rw [cutF_cons]
    cases h : b == c with
    | true =>
      simp only [if_true, List.append_assoc]
      cases hc : cutF c l with
      | nil => exact absurd hc (cutF_ne c l)
      | cons h t => simp
    | false =>
      simp only [Bool.false_eq_true, if_false]
      cases hc : cutF c l with
      | nil => exact absurd hc (cutF_ne c l)
      | cons h t => simp
theorem splitAt_cutF (s : Str) (c : UInt8) : splitAt s c = (cutF c s.l).map Str.mk := by
  have := splitRun_cutF c s.l ([], ⟨[]⟩)
  simp only at this
  unfold splitAt splitRun
  rw [this]
  cases hc : cutF c s.l with
  | nil => exact absurd hc (cutF_ne c s.l)
  | cons h t => simp
theorem indexByte_neg (c : UInt8) : ∀ l, Lib.indexByte l c < 0 → cutF c l = [l]
  | [], _ => rfl
  | b :: l, h => by
    unfold Lib.indexByte at h
    unfold cutF
    cases hb : b == c with
    | true => rw [hb] at h; simp at h
    | false =>
      rw [hb] at h
      simp only [Bool.false_eq_true, if_false] at h ⊢
      have hge := Lib.indexByte_ge l c
      have : Lib.indexByte l c < 0 := by
        split at h
        · rename_i e; have := eq_of_beq e; omega
        · omega
      rw [indexByte_neg c l this]
theorem indexByte_pos (c : UInt8) : ∀ l, 0 ≤ Lib.indexByte l c → Lib.indexByte l c < l.length ∧ cutF c l = l.take (Lib.indexByte l c).toNat :: cutF c (l.drop ((Lib.indexByte l c).toNat + 1))
  | [], h => by simp [Lib.indexByte] at h
  | b :: l, h => by
    unfold Lib.indexByte at h ⊢
    cases hb : b == c with
    | true => simp [cutF, hb]
    | false =>
      rw [hb] at h
      simp only [Bool.false_eq_true, if_false] at h ⊢
      cases he : Lib.indexByte l c == -1 with
      | true => rw [he] at h; simp at h
      | false =>
        rw [he] at h
        simp only [Bool.false_eq_true, if_false] at h ⊢
        have hge := Lib.indexByte_ge l c
        have hne : Lib.indexByte l c ≠ -1 := by simpa using he
        obtain ⟨h1, h2⟩ := indexByte_pos c l (by omega)
        refine ⟨by simp; omega, ?_⟩
        have e1 : (Lib.indexByte l c + 1).toNat = (Lib.indexByte l c).toNat + 1 := by omega
        rw [e1]
        rw [cutF_cons, hb, h2]
        simp only [Bool.false_eq_true, if_false, List.take_succ_cons, List.drop_succ_cons]

/-- Split at a byte. -/
theorem genSplit_loop (c : UInt8) (n : Nat) (hn : n < 1099511627777) : ∀ (l : List UInt8) (done : List Str), l.length ≤ 1099511627776 → done.length + (cutF c l).length = n →
    ∀ m, (cutF c l).length ≤ m → iterM (fun s35 => m_strings_genSplit_s0 ⟨[c]⟩ 0 ((n : Int) - 1) s35) m ((⟨l⟩ : Str), done ++ List.replicate (n - done.length) zStr, (done.length : Int)) =
      some (⟨(cutF c l).getLast (cutF_ne c l)⟩, done ++ ((cutF c l).dropLast.map Str.mk ++ [zStr]), (n : Int) - 1) := by
  intro l
  induction hlen : l.length using Nat.strongRecOn generalizing l with
  | _ k ih =>
    intro done hl hd m hm
    have hne := cutF_ne c l
    have hpos : 0 < (cutF c l).length := List.length_pos_iff.2 hne
    obtain ⟨m, rfl⟩ : ∃ m', m = m' + 1 := ⟨m - 1, by omega⟩
    by_cases hlast : (cutF c l).length = 1
    · rw [iterM_inr (b := ((⟨l⟩ : Str), done ++ List.replicate (n - done.length) zStr, (done.length : Int))) (by unfold m_strings_genSplit_s0; exact if_neg (by simp [cmpI]; omega))]
      obtain ⟨x, hx⟩ := List.length_eq_one_iff.1 hlast
      have e1 : n - done.length = 1 := by omega
      simp only [hx, List.getLast_singleton, List.dropLast_singleton, List.map_nil, List.nil_append, e1, List.replicate_one]
      have hxl : x = l := by
        rcases Int.lt_or_le (Lib.indexByte l c) 0 with h | h
        · rw [indexByte_neg c l h] at hx; injection hx with hx; exact hx.symm
        · obtain ⟨_, h2⟩ := indexByte_pos c l h
          rw [h2] at hx
          have := congrArg List.length hx
          simp at this
          exact absurd this (cutF_ne _ _)
      rw [hxl]
      congr 2
      congr 1
      omega
    · have hidx : 0 ≤ Lib.indexByte l c := by
        rcases Int.lt_or_le (Lib.indexByte l c) 0 with h | h
        · rw [indexByte_neg c l h] at hlast; simp at hlast
        · exact h
      obtain ⟨h1, h2⟩ := indexByte_pos c l hidx
      obtain ⟨j, hi⟩ := Int.eq_ofNat_of_zero_le hidx
      rw [hi] at h1 h2
      rw [Int.toNat_natCast] at h2
      have hj : j < l.length := by omega
      have e2 : m_strings_Index ⟨l⟩ ⟨[c]⟩ = some (j : Int) := by simp [m_strings_Index, hi]
      have hrep : done.length < (done ++ List.replicate (n - done.length) zStr).length := by simp; omega
      have e4 : atI (done ++ List.replicate (n - done.length) zStr) (done.length : Int) = some zStr := by
        rw [atI_nat, List.getElem?_append_right (Nat.le_refl _), Nat.sub_self, List.getElem?_replicate, if_pos (by omega)]
      have e5 : setO (done ++ List.replicate (n - done.length) zStr) (done.length : Int) (⟨l.take j⟩ : Str) = some ((done ++ [⟨l.take j⟩]) ++ List.replicate (n - (done.length + 1)) zStr) := by
        rw [setO_nat hrep]
        congr 1
        rw [List.set_append_right _ _ (Nat.le_refl _), Nat.sub_self]
        obtain ⟨q, hq⟩ : ∃ q, n - done.length = q + 1 := ⟨n - done.length - 1, by omega⟩
        rw [hq, List.replicate_succ, List.set_cons_zero, List.append_assoc, show n - (done.length + 1) = q by omega]
        rfl
      have hstep : m_strings_genSplit_s0 ⟨[c]⟩ 0 ((n : Int) - 1) ((⟨l⟩ : Str), done ++ List.replicate (n - done.length) zStr, (done.length : Int)) = some (.inl ((⟨l.drop (j + 1)⟩ : Str), (done ++ [⟨l.take j⟩]) ++ List.replicate (n - (done.length + 1)) zStr, ((done.length + 1 : Nat) : Int))) := by
        unfold m_strings_genSplit_s0
        rw [if_pos (by simp [cmpI]; omega)]
        simp only
        rw [e2, Option.bind_some, if_neg (by simp [cmpI]), show ((j : Int) + 0) = (j : Int) by omega, i64_of (by omega) (by omega), Option.bind_some, cutHO_nat (show j ≤ (⟨l⟩ : Str).l.length by show j ≤ l.length; omega), Option.bind_some, e4, Option.bind_some, e5, Option.bind_some]
        rw [show ((j : Int) + (([c] : List UInt8).length : Int)) = ((j + 1 : Nat) : Int) from rfl, i64_of (by omega) (by omega), Option.bind_some, cutLO_nat (show j + 1 ≤ (⟨l⟩ : Str).l.length by show j + 1 ≤ l.length; omega), Option.bind_some, i64_succ (by omega), Option.bind_some]
      rw [iterM_inl hstep]
      have hlen2 : (cutF c (l.drop (j + 1))).length + 1 = (cutF c l).length := by rw [h2]; rfl
      have hrec := ih (l.drop (j + 1)).length (by simp; omega) (l.drop (j + 1)) rfl (done ++ [⟨l.take j⟩]) (by simp; omega) (by simp; omega) m (by omega)
      rw [List.length_append, List.length_singleton] at hrec
      rw [hrec]
      have hne2 := cutF_ne c (l.drop (j + 1))
      have e7 : (cutF c l).getLast hne = (cutF c (l.drop (j + 1))).getLast hne2 := by
        have : ∀ (L : List (List UInt8)) (hL : L ≠ []), L = l.take j :: cutF c (l.drop (j + 1)) → L.getLast hL = (cutF c (l.drop (j + 1))).getLast hne2 := by
          intro L hL e; subst e; exact List.getLast_cons hne2
        exact this _ hne h2
      have e8 : (cutF c l).dropLast = l.take j :: (cutF c (l.drop (j + 1))).dropLast := by
        have : ∀ (L : List (List UInt8)), L = l.take j :: cutF c (l.drop (j + 1)) → L.dropLast = l.take j :: (cutF c (l.drop (j + 1))).dropLast := by
          intro L e; subst e; rw [List.dropLast_cons_of_ne_nil hne2]
        exact this _ h2
      rw [e7, e8]
      simp

theorem Split_eq {s : Str} (hs : s.l.length ≤ 8388608) (c : UInt8) : m_strings_Split s ⟨[c]⟩ = some (splitAt s c) := by
  unfold m_strings_Split m_strings_genSplit
  have hcount : s.l.count c ≤ s.l.length := List.count_le_length
  rw [if_neg (by simp [cmpI]), if_neg (by simp)]
  have e1 : m_strings_Count s ⟨[c]⟩ = some (s.l.count c : Int) := rfl
  rw [if_pos (by simp [cmpI]), e1, Option.bind_some, i64_succ (by omega), Option.bind_some, Option.bind_some, i64_succ (by omega), Option.bind_some]
  have hmin : (if ((s.l.length + 1 : Nat) : Int) < ((s.l.count c + 1 : Nat) : Int) then ((s.l.length + 1 : Nat) : Int) else ((s.l.count c + 1 : Nat) : Int)) = ((s.l.count c + 1 : Nat) : Int) := if_neg (by omega)
  rw [hmin]
  have hbig : s.l.count c + 1 ≤ 16777216 := by omega
  have e2 : makeO 1 16 ((s.l.count c + 1 : Nat) : Int) zStr = some (List.replicate (s.l.count c + 1) zStr) := by
    unfold makeO
    rw [if_pos ⟨by omega, by simp; omega, by simp; omega, by omega⟩]
    rfl
  rw [e2, Option.bind_some, i64_of (by omega) (by omega), Option.bind_some]
  have hl := loopM_of (genSplit_loop c (s.l.count c + 1) (by omega) s.l [] (by omega) (by simp [cutF_len]) (s.l.count c + 1) (by rw [cutF_len]; omega)) (by omega)
  simp only [List.nil_append, List.length_nil, Nat.sub_zero] at hl
  rw [show ((0 : Nat) : Int) = 0 from rfl] at hl
  rw [hl, Option.bind_some]
  have hne := cutF_ne c s.l
  have hlen := cutF_len c s.l
  have hz : ((cutF c s.l).dropLast.map Str.mk).length = s.l.count c := by simp [hlen]
  have e3 : (((s.l.count c + 1 : Nat) : Int) - 1) = (s.l.count c : Int) := by omega
  simp only [e3]
  have e4 : atI ((cutF c s.l).dropLast.map Str.mk ++ [zStr]) (s.l.count c : Int) = some zStr := by
    rw [atI_nat, List.getElem?_append_right (by omega), hz, Nat.sub_self]; rfl
  have e5 : setO ((cutF c s.l).dropLast.map Str.mk ++ [zStr]) (s.l.count c : Int) (⟨(cutF c s.l).getLast hne⟩ : Str) = some ((cutF c s.l).map Str.mk) := by
    unfold setO
    rw [if_pos ⟨by omega, by simp [hlen]⟩]
    congr 1
    rw [Int.toNat_natCast, List.set_append_right _ _ (by omega), hz, Nat.sub_self, List.set_cons_zero]
    have := List.dropLast_concat_getLast hne
    conv => rhs; rw [← this]
    simp
  rw [e4, Option.bind_some, e5, Option.bind_some, i64_succ (by omega), Option.bind_some]
  have e6 : sliHO ((cutF c s.l).map Str.mk) ((s.l.count c + 1 : Nat) : Int) = some ((cutF c s.l).map Str.mk) := by
    unfold sliHO
    rw [if_pos ⟨by omega, by simp [hlen]⟩]
    congr 1
    rw [Int.toNat_natCast]
    exact List.take_of_length_le (by simp [hlen])
  rw [e6, splitAt_cutF]
  rfl
end Go.Proofs.YtionokffhhiicaaGreatDoor

namespace Go.Proofs.YtionokffhhiicaaGreatDoor

/-- Short. -/
def sho (s : Str) : Prop := s.l.length ≤ 8388608
theorem sho.mid {s : Str} (h : sho s) : mid s := by unfold sho at h; unfold Go.Proofs.YtionokffhhiicaaGreatDoor.mid; omega
theorem split_len (s : Str) (c : UInt8) : (splitAt s c).length ≤ s.l.length + 1 := by have := len_room (splitAt s c); rwa [split_room] at this
theorem split_part {s x : Str} {c : UInt8} (h : x ∈ splitAt s c) : x.l.length ≤ s.l.length + 1 := by
  obtain ⟨k, hk⟩ := List.getElem?_of_mem h
  have := part_le hk
  rwa [split_room] at this
theorem any_not {α : Type} (p : α → Bool) (l : List α) : l.any (fun x => !p x) = !l.all p := by
  induction l with
  | nil => rfl
  | cons x l ih => simp [ih]

theorem ValidName_eq {s : Str} (hs : sho s) : m_impl_ValidName s = some (validName s) := by
  unfold sho at hs
  have hlen := split_len s dot
  unfold m_impl_ValidName
  rw [show m_strings_Split s (⟨[46]⟩ : Str) = some (splitAt s dot) from Split_eq hs dot, Option.bind_some]
  have hl : loopM (fun s7 => m_impl_ValidName_s0 (splitAt s dot) s7) 0 = some (if (splitAt s dot).any (fun x => !validPart x) = true then .inr false else .inl ()) := by
    refine loop_any _ _ _ _ (fun k x hx hlt => ?_) ?_ (by omega) rfl
    · unfold m_impl_ValidName_s0
      have hm : mid x := by have := split_part (List.mem_of_getElem? hx); unfold mid; omega
      rw [lss_nat, if_pos (decide_eq_true hlt), atI_nat, hx, Option.bind_some, ValidPart_eq hm, Option.bind_some, i64_succ (by omega)]
      cases validPart x <;> rfl
    · unfold m_impl_ValidName_s0
      rw [lss_nat, if_neg (by simp)]
  rw [hl, Option.bind_some, any_not]
  unfold validName
  cases (splitAt s dot).all validPart <;> rfl
theorem packageOk_eq {s : Str} (hs : sho s) : m_impl_packageOk s = some (validPackage s) := by
  unfold m_impl_packageOk
  rw [ValidName_eq hs, gO_some, Option.bind_some]
  unfold validPackage emptyS
  cases decide (s = (⟨[]⟩ : Str)) <;> rfl
/-- What ChildOf hands back. -/
def childOk (p s : Str) : Str := if (validPackage p && validPart s && validName (child p s)) = true then child p s else emptyS
theorem ChildOf_eq {p s : Str} (h : p.l.length + s.l.length + 1 ≤ 8388608) : m_impl_ChildOf p s = some (childOk p s) := by
  have hp : sho p := by unfold sho; omega
  have hs : mid s := by unfold mid; omega
  unfold m_impl_ChildOf childOk
  rw [packageOk_eq hp, Option.bind_some, ValidPart_eq hs, gO_some, Option.bind_some]
  cases validPackage p with
  | false => simp only [Bool.not_false, Bool.true_or, if_true, Bool.false_and, Bool.false_eq_true, if_false, emptyS]
  | true =>
    cases validPart s with
    | false => simp only [Bool.not_false, Bool.or_true, if_true, Bool.false_and, Bool.and_false, Bool.false_eq_true, if_false, emptyS, Bool.not_true, beq_self_eq_true]
    | true =>
      have hc : (if (decide (p ≠ (⟨[]⟩ : Str))) = true then ((catO p (⟨[46]⟩ : Str)).bind fun v14 => (catO v14 s).bind fun v15 => some v15) else (some s)) = some (child p s) := by
        unfold child emptyS
        by_cases he : p = ⟨[]⟩
        · rw [if_neg (by simp [he]), if_pos he]
        · rw [if_pos (by simp [he]), if_neg he, catO_of (by show p.l.length + 1 ≤ _; omega), Option.bind_some, catO_of (by rw [List.length_append]; show p.l.length + 1 + s.l.length ≤ _; omega), Option.bind_some]
      have hsc : sho (child p s) := by
        unfold sho child
        split
        · omega
        · rw [List.length_append, List.length_append]; show p.l.length + 1 + s.l.length ≤ _; omega
      rw [hc, if_neg (by decide), Option.bind_some, ValidName_eq hsc, Option.bind_some]
      generalize child p s = q
      cases validName q <;> rfl
theorem HasPrefix_eq {s p : Str} : m_strings_HasPrefix s p = some (decide (p.l.length ≤ s.l.length) && decide ((⟨s.l.take p.l.length⟩ : Str) = p)) := by
  unfold m_strings_HasPrefix m_internal_stringslite_HasPrefix
  by_cases h : p.l.length ≤ s.l.length
  · have e : cmpI .geq (s.l.length : Int) (p.l.length : Int) = true := by simp [cmpI, h]
    rw [e, cutHO_nat h]
    simp [gO, h]
  · have e : cmpI .geq (s.l.length : Int) (p.l.length : Int) = false := by simp [cmpI]; omega
    rw [e]
    simp [gO, h]
theorem IsUnder_eq {s p : Str} (hs : sho s) (hp : p.l.length + 1 ≤ 8388608) : m_impl_IsUnder s p = some (validName s && validPackage p && under s p) := by
  have hp' : sho p := by unfold sho; omega
  unfold m_impl_IsUnder
  rw [ValidName_eq hs, Option.bind_some, packageOk_eq hp', gO_some, Option.bind_some, catO_of (by show p.l.length + 1 ≤ _; omega), gO_some]
  unfold under emptyS
  cases validName s with
  | false => rfl
  | true =>
    cases validPackage p with
    | false => rfl
    | true =>
      cases he : decide (p = (⟨[]⟩ : Str)) with
      | true => rfl
      | false =>
        cases hq : decide (s = p) with
        | true => rfl
        | false =>
          simp only [HasPrefix_eq, gO_some, Bool.not_true, Bool.or_self, Bool.false_eq_true, if_false, beq_self_eq_true, if_true, Bool.true_and, Bool.false_or, Option.bind_some, List.length_append, List.length_singleton]
          congr 2
          simp [cmpI]
          omega
end Go.Proofs.YtionokffhhiicaaGreatDoor

namespace Go.Proofs.YtionokffhhiicaaGreatDoor

theorem within_eq (a b c : Int) : m_impl_within a b c = some (inR a b c) := rfl
theorem validName_empty : validName emptyS = false := rfl
theorem idx_join {α : Type} (p : α → Bool) (xs : List α) : Option.bind (some (match xs.findIdx? p with | some i => (Sum.inr (i : Int) : Unit ⊕ Int) | none => Sum.inl ())) (Sum.elim (fun _ => some (-1)) some) = some (idxOf p xs) := by
  unfold idxOf
  cases xs.findIdx? p <;> rfl
theorem idxOf_ge {α : Type} (p : α → Bool) (xs : List α) : cmpI .geq (idxOf p xs) 0 = xs.any p := by
  unfold idxOf
  cases h : xs.findIdx? p with
  | none =>
    rw [List.findIdx?_eq_none_iff] at h
    have : xs.any p = false := by rw [List.any_eq_false]; intro x hx; simp [h x hx]
    rw [this]; rfl
  | some i =>
    obtain ⟨hi, hp, _⟩ := List.findIdx?_eq_some_iff_getElem.1 h
    have : xs.any p = true := by rw [List.any_eq_true]; exact ⟨_, List.getElem_mem hi, hp⟩
    rw [this]; simp [cmpI]
theorem idxOf_lss {α : Type} {p : α → Bool} {xs : List α} {k : Nat} {x : α} (hx : xs[k]? = some x) (hp : p x = true) : cmpI .lss (idxOf p xs) k = (xs.take k).any p := by
  have hk := lt_of_get hx
  have hxk : xs[k] = x := by rw [List.getElem?_eq_getElem hk] at hx; injection hx
  unfold idxOf
  cases h : xs.findIdx? p with
  | none =>
    rw [List.findIdx?_eq_none_iff] at h
    have := h x (List.mem_of_getElem? hx)
    rw [hp] at this; cases this
  | some i =>
    obtain ⟨hi, hpi, hmin⟩ := List.findIdx?_eq_some_iff_getElem.1 h
    by_cases hik : i < k
    · have : (xs.take k).any p = true := by
        rw [List.any_eq_true]
        exact ⟨xs[i], List.mem_take_iff_getElem.2 ⟨i, by omega, rfl⟩, hpi⟩
      rw [this]; simp [cmpI, hik]
    · have : (xs.take k).any p = false := by
        rw [List.any_eq_false]
        intro y hy
        obtain ⟨j, hj, rfl⟩ := List.mem_take_iff_getElem.1 hy
        exact hmin j (by omega)
      rw [this]; simp [cmpI]; omega

/-! ### Statements and files -/

theorem stmt_mod (s : Stmt) : decide (s = { (⟨s.kind, ⟨[]⟩, 0, ⟨[]⟩, 0⟩ : Stmt) with module := s.module }) = (cmpI .eql s.level 0 && decide (s.name = ⟨[]⟩) && cmpI .eql s.value 0) := by
  cases s; rw [Bool.eq_iff_iff]; simp [cmpI, and_assoc]
theorem stmt_nv (s : Stmt) : decide (s = { { (⟨s.kind, ⟨[]⟩, 0, ⟨[]⟩, 0⟩ : Stmt) with name := s.name } with value := s.value }) = (decide (s.module = ⟨[]⟩) && cmpI .eql s.level 0) := by
  cases s; rw [Bool.eq_iff_iff]; simp [cmpI]
theorem stmt_n (s : Stmt) : decide (s = { (⟨s.kind, ⟨[]⟩, 0, ⟨[]⟩, 0⟩ : Stmt) with name := s.name }) = (decide (s.module = ⟨[]⟩) && cmpI .eql s.level 0 && cmpI .eql s.value 0) := by
  cases s; rw [Bool.eq_iff_iff]; simp [cmpI, and_assoc]
theorem smStmt.sho {s : Stmt} (h : smStmt s) : sho s.module := by have := h.1; unfold Go.Proofs.YtionokffhhiicaaGreatDoor.sho; omega
theorem smStmt.midn {s : Stmt} (h : smStmt s) : mid s.name := by have := h.2; unfold mid; omega

theorem stmtOk_eq {s : Stmt} (h : smStmt s) : m_impl_stmtOk s = some (validStmt s) := by
  have hm := ValidName_eq h.sho
  have hn := ValidPart_eq h.midn
  unfold m_impl_stmtOk
  rw [hm, hn, stmt_mod, stmt_nv, stmt_n]
  simp only [within_eq, gO_some, Option.bind_some]
  unfold validStmt
  rcases s with ⟨kind, m, level, name, value⟩
  simp only [show ∀ x y : Int, cmpI .eql x y = (x == y) from fun _ _ => rfl]
  by_cases h0 : kind = 0
  · subst h0
    simp only [beq_self_eq_true, if_true, Option.bind_some]
    generalize validName m = a; generalize (level == 0) = b; generalize decide (name = ⟨[]⟩) = c; generalize (value == 0) = d
    cases a <;> cases b <;> cases c <;> cases d <;> rfl
  · by_cases h2 : kind = 2
    · subst h2
      simp only [beq_self_eq_true, if_true, Option.bind_some, show ((2 : Int) == 0) = false from rfl, show ((2 : Int) == 1) = false from rfl, Bool.false_eq_true, if_false]
      generalize validName m = a; generalize (level == 0) = b; generalize decide (name = ⟨[]⟩) = c; generalize (value == 0) = d
      cases a <;> cases b <;> cases c <;> cases d <;> rfl
    · have e0 : (kind == 0) = false := by simpa using h0
      have e2 : (kind == 2) = false := by simpa using h2
      simp only [e0, e2, Bool.false_eq_true, if_false, Option.bind_some]
      by_cases h1 : kind = 1
      · subst h1
        simp only [beq_self_eq_true, if_true]
        have hl : cmpI .geq level 1 = cmpI .gtr level 0 := by simp [cmpI]; omega
        rw [hl]
        unfold validPackage
        by_cases hme : m = emptyS
        · subst hme
          rw [validName_empty]
          simp only [emptyS, decide_true, ne_eq, not_true_eq_false, decide_false]
          generalize (value == 0) = a; generalize inR level 0 3 = b; generalize cmpI .gtr level 0 = c; generalize validPart name = d
          cases a <;> cases b <;> cases c <;> cases d <;> rfl
        · have e1 : decide (m = emptyS) = false := decide_eq_false hme
          have e3 : decide (m = ⟨[]⟩) = false := decide_eq_false hme
          have e4 : decide (m ≠ ⟨[]⟩) = true := decide_eq_true hme
          rw [e1, e3, e4]
          generalize (value == 0) = a; generalize inR level 0 3 = b; generalize cmpI .gtr level 0 = c; generalize validPart name = d; generalize validName m = e
          cases a <;> cases b <;> cases c <;> cases d <;> cases e <;> rfl
      · have e1 : (kind == 1) = false := by simpa using h1
        simp only [e1, Bool.false_eq_true, if_false]
        by_cases h3 : kind = 3
        · subst h3
          simp only [beq_self_eq_true, if_true]
          generalize decide (m = ⟨[]⟩) = a; generalize (level == 0) = b; generalize inR value 0 99 = c; generalize validPart name = d
          cases a <;> cases b <;> cases c <;> cases d <;> rfl
        · have e3 : (kind == 3) = false := by simpa using h3
          simp only [e3, Bool.false_eq_true, if_false]
          by_cases h4 : kind = 4
          · subst h4
            simp only [beq_self_eq_true, if_true]
            generalize decide (m = ⟨[]⟩) = a; generalize (level == 0) = b; generalize (value == 0) = c; generalize validPart name = d
            cases a <;> cases b <;> cases c <;> cases d <;> rfl
          · have e4 : (kind == 4) = false := by simpa using h4
            simp only [e4, Bool.false_eq_true, if_false]
            by_cases h5 : kind = 5
            · subst h5; rfl
            · have e5 : (kind == 5) = false := by simpa using h5
              simp only [e5, Bool.false_eq_true, if_false]

theorem ValidBody_eq {b : List Stmt} (hlen : b.length ≤ 1048576) (h : ∀ s ∈ b, smStmt s) : m_impl_ValidBody b = some (validBody b) := by
  unfold m_impl_ValidBody
  have hl : loopM (fun s4 => m_impl_ValidBody_s0 b s4) 0 = some (if b.any (fun x => !validStmt x) = true then .inr false else .inl ()) := by
    refine loop_any _ _ _ _ (fun k x hx hlt => ?_) ?_ (by omega) rfl
    · unfold m_impl_ValidBody_s0
      rw [lss_nat, if_pos (decide_eq_true hlt), atI_nat, hx, Option.bind_some, stmtOk_eq (h x (List.mem_of_getElem? hx)), Option.bind_some, i64_succ (by omega)]
      cases validStmt x <;> rfl
    · unfold m_impl_ValidBody_s0
      rw [lss_nat, if_neg (by simp)]
  rw [hl, Option.bind_some, any_not]
  unfold validBody
  cases b.all validStmt <;> rfl

theorem child_ne {p s : Str} (h : validName (child p s) = true) : child p s ≠ emptyS := by
  intro e; rw [e, validName_empty] at h; cases h
theorem smFile.shop {f : File} (h : smFile f) : sho f.pkg := by have := h.1; unfold sho; omega
theorem smFile.midn {f : File} (h : smFile f) : mid f.name := by have := h.2.1; unfold mid; omega
theorem smFile.child {f : File} (h : smFile f) : f.pkg.l.length + f.name.l.length + 1 ≤ 8388608 := by have := h.1; have := h.2.1; omega
theorem fileOk_eq {f : File} (h : smFile f) : m_impl_fileOk f = some (validFile f) := by
  unfold m_impl_fileOk
  rw [within_eq, Option.bind_some, packageOk_eq h.shop, gO_some, Option.bind_some, within_eq, gO_some, Option.bind_some, ValidBody_eq h.2.2.1 h.2.2.2, gO_some, Option.bind_some, ValidPart_eq h.midn, Option.bind_some, ChildOf_eq h.child, gO_some, Option.bind_some]
  unfold validFile
  cases inR f.root 0 2 with
  | false => rfl
  | true =>
    cases hp : validPackage f.pkg with
    | false => cases inR f.stamp 0 99 <;> rfl
    | true =>
      cases inR f.stamp 0 99 with
      | false => rfl
      | true =>
        cases validBody f.body with
        | false => rfl
        | true =>
          cases f.init with
          | true => rfl
          | false =>
            show some (validPart f.name && decide ((if (validPart f.name == true) = true then childOk f.pkg f.name else default) ≠ (⟨[]⟩ : Str))) = some (validPart f.name && validName (Go.Proofs.YtionokffhhiicaaGreatDoor.child f.pkg f.name))
            cases hn : validPart f.name with
            | false => rfl
            | true =>
              unfold childOk
              rw [hp, hn]
              cases hc : validName (Go.Proofs.YtionokffhhiicaaGreatDoor.child f.pkg f.name) with
              | false => simp [emptyS]
              | true =>
                have := child_ne hc
                simp only [Bool.and_self, if_true, beq_self_eq_true, Bool.true_and]
                rw [decide_eq_true (show Go.Proofs.YtionokffhhiicaaGreatDoor.child f.pkg f.name ≠ ⟨[]⟩ from this)]

theorem samePlace_eq (f g : File) : m_impl_samePlace f g = some (sameFile f g) := rfl
theorem sameFile_symm (f g : File) : sameFile f g = sameFile g f := by
  unfold sameFile
  rw [BEq.comm (a := f.root), BEq.comm (a := f.init), decide_eq_decide.2 (eq_comm (a := f.pkg) (b := g.pkg)), decide_eq_decide.2 (eq_comm (a := f.name) (b := g.name))]
theorem sameFile_refl (f : File) : sameFile f f = true := by simp [sameFile]
theorem ValidTree_eq {t : Tree} (h : smTree t) : m_impl_ValidTree t = some (validTree t) := by
  have hlen := h.1
  unfold m_impl_ValidTree
  have hl : loopM (fun s4 => m_impl_ValidTree_s0 t s4) 0 = some (if (List.range t.files.length).any (fun k => !treeAt t.files k) = true then .inr false else .inl ()) := by
    refine loop_any (List.range t.files.length) _ _ _ (fun k x hx hlt => ?_) ?_ (by rw [List.length_range]; omega) rfl
    · rw [List.length_range] at hlt
      rw [List.getElem?_range hlt] at hx
      injection hx with hx
      subst hx
      unfold m_impl_ValidTree_s0
      obtain ⟨f, hf⟩ : ∃ f, t.files[k]? = some f := ⟨_, List.getElem?_eq_getElem hlt⟩
      have ht : treeAt t.files k = !(!validFile f || cmpI .lss (fileAt t.files f) k) := by unfold treeAt; rw [hf]
      rw [lss_nat, if_pos (decide_eq_true hlt), atI_nat, hf, Option.bind_some, fileOk_eq (h.2 _ (List.mem_of_getElem? hf)), Option.bind_some, sliHO_nat (by omega), Option.bind_some, ht]
      cases validFile f with
      | false => rfl
      | true =>
        rw [if_neg (by decide)]
        have hin : loopM (fun s28 => m_impl_ValidTree_s1 f (t.files.take k) s28) 0 = some (if (t.files.take k).any (fun x => sameFile f x) = true then .inr (.inr (.inr false)) else .inl ()) := by
          have htl : (t.files.take k).length ≤ k := by simp; omega
          refine loop_any _ _ _ _ (fun j y hy hjt => ?_) ?_ (by omega) rfl
          · unfold m_impl_ValidTree_s1
            rw [lss_nat, if_pos (decide_eq_true hjt), atI_nat, hy, Option.bind_some, samePlace_eq, Option.bind_some, i64_succ (by omega)]
            cases sameFile f y <;> rfl
          · unfold m_impl_ValidTree_s1
            rw [lss_nat, if_neg (by simp)]
        rw [hin]
        have hfa : cmpI .lss (fileAt t.files f) k = (t.files.take k).any (fun x => sameFile f x) := by
          unfold fileAt
          rw [idxOf_lss (p := fun x => sameFile x f) hf (sameFile_refl _)]
          congr 1
          funext x
          exact sameFile_symm _ _
        rw [hfa]
        cases (t.files.take k).any (fun x => sameFile f x) with
        | true => rfl
        | false => 
          rw [if_neg (by decide), Option.bind_some, Sum.elim_inl, i64_succ (by omega)]
          rfl
    · unfold m_impl_ValidTree_s0
      rw [List.length_range, lss_nat, if_neg (by simp)]
  rw [hl, Option.bind_some, any_not]
  unfold validTree treeTo
  cases (List.range t.files.length).all (treeAt t.files) <;> rfl

/-- What a valid tree holds. -/
theorem validTree_file {t : Tree} (h : validTree t = true) {f : File} (hf : f ∈ t.files) : validFile f = true := by
  obtain ⟨k, hk⟩ := List.getElem?_of_mem hf
  unfold validTree treeTo at h
  rw [Bool.and_eq_true] at h
  have := List.all_eq_true.1 h.1 k (List.mem_range.2 (lt_of_get hk))
  unfold treeAt at this
  rw [hk] at this
  simp only at this
  cases hv : validFile f with
  | true => rfl
  | false => rw [hv] at this; cases this
theorem validFile_pkg {f : File} (h : validFile f = true) : validPackage f.pkg = true := by
  unfold validFile at h
  cases hv : validPackage f.pkg with
  | true => rfl
  | false =>
    rw [hv, if_pos (by simp)] at h
    cases h
end Go.Proofs.YtionokffhhiicaaGreatDoor

namespace Go.Proofs.YtionokffhhiicaaGreatDoor

/-! ### A tree that is valid -/

structure Good (t : Tree) : Prop where
  sm : smTree t
  ok : validTree t = true
theorem Good.pkg {t : Tree} (h : Good t) : ∀ f ∈ t.files, validPackage f.pkg = true := fun _ hf => validFile_pkg (validTree_file h.ok hf)
theorem Good.len {t : Tree} (h : Good t) : t.files.length ≤ 1048576 := h.sm.1

theorem validPart_len {s : Str} (h : validPart s = true) : 1 ≤ s.l.length ∧ s.l.length ≤ 3 := by
  unfold validPart inR at h
  simp [cmpI] at h
  omega
theorem lenSum_le (l : List Str) (h : ∀ x ∈ l, x.l.length ≤ 3) : lenSum l ≤ 4 * l.length := by
  induction l with
  | nil => exact Nat.le_refl _
  | cons x l ih =>
    have h1 := h x (by simp)
    have h2 := ih fun y hy => h y (by simp [hy])
    unfold lenSum at h2 ⊢
    simp only [List.map_cons, List.sum_cons, List.length_cons]
    omega
theorem validName_len {s : Str} (h : validName s = true) : s.l.length ≤ 11 := by
  unfold validName at h
  rw [Bool.and_eq_true] at h
  have h1 := lenSum_le (splitAt s dot) fun x hx => (validPart_len (List.all_eq_true.1 h.1 x hx)).2
  rw [split_room] at h1
  have h2 := h.2
  simp [cmpI] at h2
  omega
theorem validPackage_len {s : Str} (h : validPackage s = true) : s.l.length ≤ 11 := by
  unfold validPackage at h
  rw [Bool.or_eq_true] at h
  rcases h with h | h
  · rw [of_decide_eq_true h]; exact Nat.zero_le _
  · exact validName_len h

/-! ### Parts and their joins -/

/-! ### Finding -/

end Go.Proofs.YtionokffhhiicaaGreatDoor

namespace Go.Proofs.YtionokffhhiicaaGreatDoor

/-! ### Cuts of joined texts -/

/-! ### The names of a tree -/

theorem hasText_iff {l : List Str} {s : Str} : hasText l s = true ↔ s ∈ l := by
  unfold hasText textAt
  rw [idxOf_ge, List.any_eq_true]
  constructor
  · rintro ⟨x, hx, h⟩; rw [← of_decide_eq_true h]; exact hx
  · intro h; exact ⟨s, h, by simp⟩
theorem insertT_iff {l : List Str} {s x : Str} : x ∈ insertT l s ↔ x ∈ l ∨ x = s := by
  refine ⟨insertT_mem, fun h => ?_⟩
  unfold insertT
  split
  · rename_i hc
    rcases h with h | h
    · exact h
    · rw [h]; exact hasText_iff.1 hc
  · rcases h with h | h
    · simp only [List.mem_append, List.mem_singleton]
      have := List.take_append_drop (insPos l s l.length) l
      rw [← this, List.mem_append] at h
      rcases h with h | h
      · exact .inl (.inl h)
      · exact .inr h
    · simp [h]
theorem insertAll_iff {m l : List Str} {x : Str} : x ∈ m.foldl insertT l ↔ x ∈ l ∨ x ∈ m := by
  induction m generalizing l with
  | nil => simp
  | cons y m ih => rw [List.foldl_cons, ih, insertT_iff, List.mem_cons, or_assoc]
end Go.Proofs.YtionokffhhiicaaGreatDoor

namespace Go.Proofs.YtionokffhhiicaaGreatDoor

/-! ### Order -/

theorem bytesLt : ∀ (x y : List UInt8), Op.bytesLess x y = decide (x < y)
  | [], [] => by simp [Op.bytesLess]
  | _ :: _, [] => by simp [Op.bytesLess]
  | [], _ :: _ => by simp [Op.bytesLess]
  | a :: x, b :: y => by
    rw [Op.bytesLess, bytesLt x y]
    simp only [List.cons_lt_cons_iff]
    by_cases h1 : a < b <;> by_cases h2 : a = b <;> by_cases h3 : x < y <;> simp [h1, h2, h3]
/-- Strictly ascending. -/
def Asc (l : List Str) : Prop := l.Pairwise fun x y => x.l < y.l
theorem asc_ext : ∀ {l m : List Str}, Asc l → Asc m → (∀ x, x ∈ l ↔ x ∈ m) → l = m
  | [], [], _, _, _ => rfl
  | [], b :: m, _, _, h => absurd ((h b).2 (by simp)) (by simp)
  | a :: l, [], _, _, h => absurd ((h a).1 (by simp)) (by simp)
  | a :: l, b :: m, hl, hm, h => by
    rw [Asc, List.pairwise_cons] at hl hm
    have hab : a = b := by
      rcases List.mem_cons.1 ((h a).1 (by simp)) with e | e
      · exact e
      · rcases List.mem_cons.1 ((h b).2 (by simp)) with e2 | e2
        · exact e2.symm
        · exact absurd (List.lt_trans (hm.1 a e) (hl.1 b e2)) (List.lt_irrefl _)
    subst hab
    rw [asc_ext hl.2 hm.2 fun x => ?_]
    constructor
    · intro hx
      rcases List.mem_cons.1 ((h x).1 (by simp [hx])) with e | e
      · rw [e] at hx; exact absurd (hl.1 a hx) (List.lt_irrefl _)
      · exact e
    · intro hx
      rcases List.mem_cons.1 ((h x).2 (by simp [hx])) with e | e
      · rw [e] at hx; exact absurd (hm.1 a hx) (List.lt_irrefl _)
      · exact e
theorem lt_of_le_ne {a b : List UInt8} (h : a ≤ b) (hne : a ≠ b) : a < b := by
  rcases Decidable.em (a < b) with h' | h'
  · exact h'
  · exact absurd (List.le_antisymm h (List.not_lt.1 h')) hne
theorem compact_spec (d : Array (List UInt8)) (hd : ∀ i j, i ≤ j → j < d.size → d[i]! ≤ d[j]!) : ∀ m, m ≤ d.size →
    (Lib.compactUpTo d m).Pairwise (· < ·) ∧ (∀ x, x ∈ Lib.compactUpTo d m ↔ ∃ j, j < m ∧ d[j]! = x)
  | 0, _ => ⟨by simp [Lib.compactUpTo], fun x => by simp [Lib.compactUpTo]⟩
  | m + 1, hm => by
    obtain ⟨h1, h2⟩ := compact_spec d hd m (by omega)
    rw [Lib.compactUpTo_succ]
    cases hk : Lib.keeps d m with
    | true =>
      rw [if_pos rfl]
      refine ⟨List.pairwise_append.2 ⟨h1, by simp, fun a ha b hb => ?_⟩, fun x => ?_⟩
      · rw [List.mem_singleton] at hb
        subst hb
        obtain ⟨j, hj, rfl⟩ := (h2 a).1 ha
        have hk' : m = 0 ∨ d[m]! ≠ d[m - 1]! := of_decide_eq_true hk
        rcases hk' with e | e
        · omega
        · have hlt := lt_of_le_ne (hd (m - 1) m (by omega) (by omega)) (Ne.symm e)
          rcases Decidable.em (d[j]! = d[m - 1]!) with e2 | e2
          · rw [e2]; exact hlt
          · exact List.lt_trans (lt_of_le_ne (hd j (m - 1) (by omega) (by omega)) e2) hlt
      · rw [List.mem_append, h2, List.mem_singleton]
        constructor
        · rintro (⟨j, hj, h⟩ | h)
          · exact ⟨j, by omega, h⟩
          · exact ⟨m, by omega, h.symm⟩
        · rintro ⟨j, hj, h⟩
          by_cases hjm : j = m
          · subst hjm; exact .inr h.symm
          · exact .inl ⟨j, by omega, h⟩
    | false =>
      rw [if_neg (by decide), List.append_nil]
      refine ⟨h1, fun x => ?_⟩
      rw [h2]
      have hk' : ¬ (m = 0 ∨ d[m]! ≠ d[m - 1]!) := of_decide_eq_false hk
      constructor
      · rintro ⟨j, hj, h⟩; exact ⟨j, by omega, h⟩
      · rintro ⟨j, hj, h⟩
        by_cases hjm : j = m
        · subst hjm
          refine ⟨j - 1, by omega, ?_⟩
          rw [← h]
          exact (Decidable.byContradiction fun e => hk' (.inr (Ne.symm e)))
        · exact ⟨j, by omega, h⟩

/-- What 'sorted' hands back: the same texts, strictly ascending. -/
def ordered (xs : List Str) : List Str := compactS (sortS xs)
theorem le_dec_trans (a b c : List UInt8) (h1 : decide (a ≤ b) = true) (h2 : decide (b ≤ c) = true) : decide (a ≤ c) = true :=
  decide_eq_true (List.le_trans (of_decide_eq_true h1) (of_decide_eq_true h2))
theorem le_dec_total (a b : List UInt8) : (decide (a ≤ b) || decide (b ≤ a)) = true := by
  rcases List.le_total a b with h | h <;> simp [h]
theorem ordered_spec (xs : List Str) : Asc (ordered xs) ∧ ∀ x, x ∈ ordered xs ↔ x ∈ xs := by
  have hs := List.pairwise_mergeSort (le := fun x y : List UInt8 => decide (x ≤ y)) le_dec_trans le_dec_total (xs.map (·.l))
  have hm : ∀ y, y ∈ (xs.map (·.l)).mergeSort (fun x y => decide (x ≤ y)) ↔ y ∈ xs.map (·.l) := fun y => List.mem_mergeSort
  unfold ordered compactS
  rw [sortS_l]
  generalize (xs.map (·.l)).mergeSort (fun x y => decide (x ≤ y)) = zs at hs hm
  have hd : ∀ i j, i ≤ j → j < zs.toArray.size → zs.toArray[i]! ≤ zs.toArray[j]! := by
    intro i j hij hj
    have hj' : j < zs.length := by simpa using hj
    by_cases e : i = j
    · subst e; exact List.le_refl _
    · have := List.pairwise_iff_getElem.1 hs i j (by omega) hj' (by omega)
      simpa [getElem!_pos, hj', show i < zs.length by omega] using this
  obtain ⟨h1, h2⟩ := compact_spec zs.toArray hd zs.length (by simp)
  refine ⟨?_, fun x => ?_⟩
  · unfold Asc Lib.compact
    rw [List.pairwise_map]
    exact h1
  · have hmem : ∀ y, y ∈ Lib.compact zs ↔ y ∈ xs.map (·.l) := by
      intro y
      rw [← hm]
      unfold Lib.compact
      rw [h2]
      constructor
      · rintro ⟨j, hj, rfl⟩
        rw [show zs.toArray[j]! = zs[j] from by simp [getElem!_pos, hj]]
        exact List.getElem_mem hj
      · intro hy
        obtain ⟨j, hj, rfl⟩ := List.mem_iff_getElem.1 hy
        exact ⟨j, hj, by simp [getElem!_pos, hj]⟩
    rw [List.mem_map]
    constructor
    · rintro ⟨y, hy, rfl⟩
      obtain ⟨z, hz, rfl⟩ := List.mem_map.1 ((hmem y).1 hy)
      exact hz
    · intro hx
      exact ⟨x.l, (hmem _).2 (List.mem_map.2 ⟨x, hx, rfl⟩), rfl⟩
theorem ordered_len (xs : List Str) : (ordered xs).length ≤ xs.length := by
  unfold ordered compactS
  rw [List.length_map, sortS_l]
  refine Nat.le_trans (Lib.compact_length_le _) ?_
  simp
theorem sorted_eq {xs : List Str} (h : xs.length ≤ 1099511627776) : m_impl_sorted xs = some (ordered xs) := by
  have h2 := ordered_len xs
  unfold m_impl_sorted m_slices_Sort_string_string
  rw [if_pos (by omega), Option.bind_some]
  unfold m_slices_Compact_string_string
  rw [if_pos (by rw [sortS_len]; omega), Option.bind_some]
  show (appO 16 [] (ordered xs)).bind (fun v11 => some v11) = _
  rw [appO_of (by simp; omega) (by simp; omega)]
  rfl

/-! ### The reference's order -/

theorem gtr_lt {x y : Str} : cmpS .gtr x y = decide (y.l < x.l) := by
  show (!(Op.bytesLess x.l y.l || decide (x = y))) = _
  rw [bytesLt]
  by_cases h : x = y
  · subst h
    simp [List.lt_irrefl]
  · have hne : x.l ≠ y.l := fun e => h (by cases x; cases y; simp_all)
    by_cases h2 : x.l < y.l
    · have : ¬ y.l < x.l := fun h3 => List.lt_irrefl _ (List.lt_trans h2 h3)
      simp [h2, this]
    · have : y.l < x.l := lt_of_le_ne (List.not_lt.1 h2) (Ne.symm hne)
      simp [h, h2, this]
theorem insPos_le (l : List Str) (s : Str) : ∀ k, insPos l s k ≤ k
  | 0 => Nat.le_refl _
  | k + 1 => by
    unfold insPos
    split
    · split
      · have := insPos_le l s k; omega
      · exact Nat.le_refl _
    · exact Nat.le_refl _
theorem insPos_spec {l : List Str} {s : Str} : ∀ k, k ≤ l.length → (∀ j y, l[j]? = some y → insPos l s k ≤ j → j < k → s.l < y.l) ∧ (∀ y, 0 < insPos l s k → l[insPos l s k - 1]? = some y → ¬ s.l < y.l)
  | 0, _ => ⟨fun j _ _ _ h => absurd h (by omega), fun _ h => absurd h (by simp [insPos])⟩
  | k + 1, hk => by
    have hx : l[k]? = some l[k] := List.getElem?_eq_getElem (by omega)
    by_cases h : s.l < l[k].l
    · have e : insPos l s (k + 1) = insPos l s k := by
        conv => lhs; unfold insPos
        rw [hx]
        simp only
        rw [gtr_lt, if_pos (decide_eq_true h)]
      rw [e]
      obtain ⟨h1, h2⟩ := insPos_spec (l := l) (s := s) k (by omega)
      refine ⟨fun j y hj hj1 hj2 => ?_, h2⟩
      by_cases e : j = k
      · subst e; rw [hx] at hj; injection hj with hj; rw [← hj]; exact h
      · exact h1 j y hj hj1 (by omega)
    · have e : insPos l s (k + 1) = k + 1 := by
        unfold insPos
        rw [hx]
        simp only
        rw [gtr_lt, if_neg (by simpa using h)]
      rw [e]
      refine ⟨fun j _ _ h1 h2 => by omega, fun y _ hy => ?_⟩
      rw [Nat.add_sub_cancel, hx] at hy
      injection hy with hy
      rw [← hy]; exact h
theorem insertT_asc {l : List Str} {s : Str} (hl : Asc l) : Asc (insertT l s) := by
  unfold insertT
  cases hc : hasText l s with
  | true => exact hl
  | false =>
    rw [if_neg (by decide)]
    have hns : s ∉ l := fun h => by rw [hasText_iff.2 h] at hc; cases hc
    obtain ⟨h1, h2⟩ := insPos_spec (l := l) (s := s) l.length (Nat.le_refl _)
    have hle := insPos_le l s l.length
    generalize insPos l s l.length = p at *
    have hpw := List.pairwise_iff_getElem.1 hl
    have hlow : ∀ a ∈ l.take p, a.l < s.l := by
      intro a ha
      obtain ⟨i, hi, rfl⟩ := List.mem_take_iff_getElem.1 ha
      have hp := h2 l[p - 1] (by omega) (List.getElem?_eq_getElem (by omega))
      have hlt : l[p - 1].l < s.l := lt_of_le_ne (List.not_lt.1 hp) fun e => hns (by
        have : l[p - 1] = s := by
          cases hq : l[p - 1] with
          | mk q => rw [hq] at e; cases s; simp_all
        rw [← this]; exact List.getElem_mem _)
      by_cases e : i = p - 1
      · subst e; exact hlt
      · exact List.lt_trans (hpw i (p - 1) (by omega) (by omega) (by omega)) hlt
    have hhigh : ∀ b ∈ l.drop p, s.l < b.l := by
      intro b hb
      obtain ⟨i, hi, rfl⟩ := List.mem_drop_iff_getElem.1 hb
      exact h1 _ _ (List.getElem?_eq_getElem _) (by omega) (by omega)
    unfold Asc
    rw [List.append_assoc, List.pairwise_append]
    refine ⟨hl.sublist (List.take_sublist _ _), ?_, fun a ha b hb => ?_⟩
    · rw [List.singleton_append, List.pairwise_cons]
      exact ⟨hhigh, hl.sublist (List.drop_sublist _ _)⟩
    · rw [List.singleton_append, List.mem_cons] at hb
      rcases hb with rfl | hb
      · exact hlow a ha
      · exact List.lt_trans (hlow a ha) (hhigh b hb)
theorem insertAll_asc {m l : List Str} (hl : Asc l) : Asc (m.foldl insertT l) := by
  induction m generalizing l with
  | nil => exact hl
  | cons x m ih => rw [List.foldl_cons]; exact ih (insertT_asc hl)
end Go.Proofs.YtionokffhhiicaaGreatDoor

namespace Go.Proofs.YtionokffhhiicaaGreatDoor

section
variable {S β : Type}
/-- A loop that goes up to n and ends. -/
theorem loop_upto {step : S → Option (S ⊕ β)} (n : Nat) (mk : Nat → S) {b : β} (h : ∀ k, k < n → step (mk k) = some (.inl (mk (k + 1)))) (hend : step (mk n) = some (.inr b)) (hn : n < 576460752303423488) {s : S} (hs : s = mk 0) : loopM step s = some b := by
  subst hs
  have key : ∀ m k, k + m = n → iterM step (m + 1) (mk k) = some b := by
    intro m
    induction m with
    | zero => intro k hk; rw [show k = n by omega]; exact iterM_inr hend
    | succ m ih => intro k hk; rw [iterM_inl (h k (by omega))]; exact ih (k + 1) (by omega)
  exact loopM_of (key n 0 (by omega)) (by omega)
end
theorem get_some {α : Type} {l : List α} {k : Nat} (h : k < l.length) : ∃ x, l[k]? = some x ∧ x ∈ l := ⟨l[k], List.getElem?_eq_getElem h, List.getElem_mem h⟩

theorem EqualS_eq {l m : List Str} (h : l.length ≤ 1152921504606846) : m_slices_Equal_string_string l m = some (decide (l = m)) := by
  unfold m_slices_Equal_string_string
  by_cases hlen : l.length = m.length
  · rw [if_neg (by simp [cmpI, hlen])]
    have hl : loopM (fun s => m_slices_Equal_string_string_s0 l m s) 0 = some (if (List.range l.length).any (fun k => decide (l[k]? ≠ m[k]?)) = true then .inr false else .inl ()) := by
      refine loop_any (List.range l.length) _ _ _ (fun k x hx hlt => ?_) ?_ (by rw [List.length_range]; omega) rfl
      · rw [List.length_range] at hlt
        rw [List.getElem?_range hlt] at hx
        injection hx with hx
        subst hx
        obtain ⟨a, ha, _⟩ := get_some hlt
        obtain ⟨b, hb, _⟩ := get_some (l := m) (k := k) (by omega)
        unfold m_slices_Equal_string_string_s0
        rw [lss_nat, if_pos (decide_eq_true hlt), atI_nat, ha, Option.bind_some, atI_nat, hb, Option.bind_some, i64_succ (by omega)]
        by_cases e : a = b <;> simp [e]
      · unfold m_slices_Equal_string_string_s0
        rw [List.length_range, lss_nat, if_neg (by simp)]
    rw [hl, Option.bind_some]
    by_cases e : l = m
    · subst e
      rw [if_neg (by simp)]
      simp
    · rw [if_pos]
      · simp [e]
      · rw [List.any_eq_true]
        refine Decidable.byContradiction fun hc => e (List.ext_getElem? fun k => ?_)
        by_cases hk : k < l.length
        · refine Decidable.byContradiction fun h2 => hc ⟨k, List.mem_range.2 hk, decide_eq_true h2⟩
        · rw [List.getElem?_eq_none (by omega), List.getElem?_eq_none (by omega)]
  · rw [if_pos (by simp [cmpI]; omega)]
    have : l ≠ m := fun e => hlen (by rw [e])
    simp [this]
/-! ### Names above -/

/-! ### The names of a tree -/

theorem validTree_len {t : Tree} (h : validTree t = true) : t.files.length ≤ 12 := by
  unfold validTree at h
  rw [Bool.and_eq_true] at h
  have := h.2
  simp [cmpI] at this
  omega
/-! ### The looks into two trees -/

end Go.Proofs.YtionokffhhiicaaGreatDoor

namespace Go.Proofs.YtionokffhhiicaaGreatDoor
open Go.RowKit

/-! ### What there can be -/

/-- A datum that some world holds. -/
def Okd {α : Type} [Rep α] (x : α) : Prop := ∃ M w cs, Rep.rdc M w cs x
section
variable {α β : Type} [Rep α] [Rep β]
theorem Okd.fld {get : α → β} {off : Nat} (f : Fld get off) {x : α} (h : Okd x) : Okd (get x) := by
  obtain ⟨M, w, cs, hr⟩ := h
  obtain ⟨c, _, h2⟩ := f.sub hr
  exact ⟨M, w, c, h2⟩
theorem Okd.str {s : Str} (h : Okd s) : s.l.length ≤ 9223372036854775807 := by
  obtain ⟨M, w, cs, hr⟩ := h
  exact hr.2
theorem Okd.len {xs : List α} (h : Okd xs) : xs.length ≤ 9223372036854775807 := by
  obtain ⟨M, w, cs, A, c, _, h1, h2, _⟩ := h
  exact Nat.le_trans h1 h2
theorem rowR_okd {M : Nat → Prop} {w : World} : ∀ {cells : List Value} {xs : List α}, rowR M w cells xs → ∀ x ∈ xs, Okd x
  | _, _ :: _, ⟨c, r, _, h1, h2⟩, x, hx => (List.mem_cons.1 hx).elim (fun e => e ▸ ⟨M, w, c, h1⟩) (rowR_okd h2 x)
theorem Okd.mem {xs : List α} (h : Okd xs) {x : α} (hx : x ∈ xs) : Okd x := by
  obtain ⟨M, w, cs, A, c, _, _, _, h3⟩ := h
  rcases h3 with h3 | ⟨b, o, cells, _, _, _, hr⟩
  · rw [h3] at hx; cases hx
  · exact rowR_okd hr x hx
theorem RdAll.okd {M : Nat → Prop} {w : World} {vs : List Value} {xs : List Dt} (hr : RdAll M w vs xs) {x : α} (hx : dt x ∈ xs) : Okd x := by
  induction hr with
  | nil => cases hx
  | cons h r ih =>
    rcases List.mem_cons.1 hx with e | hx
    · rw [← e] at h
      obtain ⟨cs, h1, _⟩ := h
      exact ⟨M, w, cs, h1⟩
    · exact ih hx
theorem Fn.okd {P : Program} {f : FuncId} {xs : List Dt} {y : Dt} {x : α} (hx : dt x ∈ xs) (h : Okd x → Fn P f xs y) : Fn P f xs y := fun M w vs hm hr => h (hr.okd hx) M w vs hm hr
end

/-! ### Loops over places -/
section
variable {α β σ S : Type}
theorem neq_len {m n : Nat} : cmpI .neq (m : Int) (n : Int) = !decide (m = n) := by
  by_cases h : m = n
  · simp [cmpI, h]
  · simp [cmpI, h]; omega
theorem set_at {xs : List α} {z : α} {k : Nat} (hk : k < xs.length) : (xs.take k ++ List.replicate (xs.length - k) z).set k xs[k] = xs.take (k + 1) ++ List.replicate (xs.length - (k + 1)) z := by
  rw [List.set_append_right _ _ (by rw [List.length_take]; omega), List.length_take, Nat.min_eq_left (by omega), Nat.sub_self, show xs.length - k = (xs.length - (k + 1)) + 1 by omega, List.replicate_succ, List.set_cons_zero, List.take_add_one, List.getElem?_eq_getElem hk]
  simp only [Option.toList_some, List.append_assoc, List.singleton_append]
theorem at_at {xs : List α} {z : α} {k : Nat} (hk : k < xs.length) : (xs.take k ++ List.replicate (xs.length - k) z)[k]? = some z := by
  rw [List.getElem?_append_right (by rw [List.length_take]; omega), List.length_take, Nat.min_eq_left (by omega), Nat.sub_self, List.getElem?_replicate, if_pos (by omega)]
theorem len_at {xs : List α} {z : α} {k : Nat} (hk : k < xs.length) : k < (xs.take k ++ List.replicate (xs.length - k) z).length := by
  rw [List.length_append, List.length_take, List.length_replicate]
  omega
/-- A copy, place by place. -/
theorem copy_loop {step : List α × Int → Option ((List α × Int) ⊕ List α)} (xs : List α) (z : α)
    (h : ∀ k (hk : k < xs.length), step (xs.take k ++ List.replicate (xs.length - k) z, (k : Int)) = some (.inl ((xs.take k ++ List.replicate (xs.length - k) z).set k xs[k], ((k + 1 : Nat) : Int))))
    (hend : ∀ ys, step (ys, (xs.length : Int)) = some (.inr ys)) (hlen : xs.length < 576460752303423488) {s0 : List α × Int} (h0 : s0 = (List.replicate xs.length z, 0)) : loopM step s0 = some xs := by
  have key : ∀ m k, k + m = xs.length → iterM step (m + 1) (xs.take k ++ List.replicate (xs.length - k) z, (k : Int)) = some xs := by
    intro m
    induction m with
    | zero =>
      intro k hk
      have : k = xs.length := by omega
      subst this
      rw [iterM_inr (hend _)]
      simp
    | succ m ih =>
      intro k hk
      have hlt : k < xs.length := by omega
      rw [iterM_inl (h k hlt), set_at hlt]
      exact ih (k + 1) (by omega)
  have h1 := key xs.length 0 (by omega)
  subst h0
  exact loopM_of (by simpa using h1) (by omega)
theorem makeO_of {size bytes n : Nat} {z : α} (h1 : n * size ≤ 16777216) (h2 : bytes * n ≤ 281474976710656) (h3 : n ≤ 9223372036854775807) : makeO size bytes (n : Int) z = some (List.replicate n z) := by
  unfold makeO
  rw [if_pos ⟨by omega, by simpa using h1, by simpa using h2, by omega⟩]
  simp

/-- A comparison, place by place. -/
theorem eq_loop [DecidableEq α] {step : Int → Option (Int ⊕ (Unit ⊕ Bool))} (xs ys : List α) (hxy : xs.length = ys.length)
    (h : ∀ k (hk : k < xs.length) (hk2 : k < ys.length), step (k : Int) = some (if xs[k] = ys[k] then .inl ((k + 1 : Nat) : Int) else .inr (.inr false)))
    (hend : step (xs.length : Int) = some (.inr (.inl ()))) (hlen : xs.length < 576460752303423488) : Option.bind (α := Unit ⊕ Bool) (loopM step 0) (Sum.elim (fun _ => some true) some) = some (decide (xs = ys)) := by
  have key : ∀ m k, k + m = xs.length → xs.take k = ys.take k → ∃ r, iterM step (m + 1) (k : Int) = some r ∧ (Sum.elim (fun _ => some true) some r : Option Bool) = some (decide (xs = ys)) := by
    intro m
    induction m with
    | zero =>
      intro k hk he
      have : k = xs.length := by omega
      subst this
      refine ⟨_, iterM_inr hend, ?_⟩
      rw [List.take_length, hxy, List.take_length] at he
      simp [he]
    | succ m ih =>
      intro k hk he
      have hlt : k < xs.length := by omega
      have hlt2 : k < ys.length := by omega
      have hs := h k hlt hlt2
      by_cases e : xs[k] = ys[k]
      · rw [if_pos e] at hs
        rw [iterM_inl hs]
        refine ih (k + 1) (by omega) ?_
        rw [List.take_add_one, List.take_add_one, he, List.getElem?_eq_getElem hlt, List.getElem?_eq_getElem hlt2, e]
      · rw [if_neg e] at hs
        refine ⟨_, iterM_inr hs, ?_⟩
        have : xs ≠ ys := fun h => by subst h; exact e rfl
        simp [this]
  obtain ⟨r, h1, h2⟩ := key xs.length 0 (by omega) rfl
  have h1' : iterM step (xs.length + 1) (0 : Int) = some r := h1
  rw [loopM_of h1' (by omega), Option.bind_some]
  exact h2

/-! ### Sizes -/

/-- What is left of 'left' behind t; -1: it was not enough. -/
def szR (t : Nat) (left : Int) : Int := if (t : Int) ≤ left then left - t else -1
theorem szR_neg {t : Nat} {left : Int} : szR t left < 0 ↔ left < t := by unfold szR; split <;> omega
theorem szR_nn {t : Nat} {left : Int} (h : 0 ≤ szR t left) : (t : Int) ≤ left ∧ szR t left = left - t := by
  unfold szR at h ⊢
  split at h
  · rename_i h1; rw [if_pos h1]; exact ⟨h1, rfl⟩
  · omega
def sumL (f : α → Nat) : List α → Nat
  | [] => 0
  | x :: xs => f x + sumL f xs
theorem sumL_mem {f : α → Nat} : ∀ {xs : List α} {x : α}, x ∈ xs → f x ≤ sumL f xs
  | y :: ys, x, hx => by
    unfold sumL
    rcases List.mem_cons.1 hx with rfl | hx
    · omega
    · have := sumL_mem (f := f) hx; omega
theorem sumL_drop {f : α → Nat} {xs : List α} {k : Nat} (hk : k < xs.length) : sumL f (xs.drop k) = f xs[k] + sumL f (xs.drop (k + 1)) := by
  rw [List.drop_eq_getElem_cons hk]; rfl
/-- The sizes of the elements, one after the other. -/
theorem sz_loop {step : Int × Int → Option ((Int × Int) ⊕ (Int ⊕ Int))} (xs : List α) (f : α → Nat)
    (h : ∀ k (hk : k < xs.length) (l : Int), 0 ≤ l → l ≤ 1048576 → step (l, (k : Int)) = some (if szR (f xs[k]) l < 0 then .inr (.inr (-1)) else .inl (szR (f xs[k]) l, ((k + 1 : Nat) : Int))))
    (hend : ∀ l, step (l, (xs.length : Int)) = some (.inr (.inl l))) (hlen : xs.length < 576460752303423488) {l0 : Int} (h0 : 0 ≤ l0) (h1 : l0 ≤ 1048576) :
    Option.bind (α := Int ⊕ Int) (loopM step (l0, 0)) (Sum.elim (fun l => some l) some) = some (szR (sumL f xs) l0) := by
  have key : ∀ m k l, k + m = xs.length → 0 ≤ l → l ≤ 1048576 → ∃ r, iterM step (m + 1) (l, (k : Int)) = some r ∧ (Sum.elim (fun l => some l) some r : Option Int) = some (szR (sumL f (xs.drop k)) l) := by
    intro m
    induction m with
    | zero =>
      intro k l hk hl hl2
      have : k = xs.length := by omega
      subst this
      refine ⟨_, iterM_inr (hend l), ?_⟩
      rw [List.drop_length]
      show some l = some (szR 0 l)
      congr 1
      unfold szR
      rw [if_pos (by omega)]
      simp
    | succ m ih =>
      intro k l hk hl hl2
      have hlt : k < xs.length := by omega
      have hs := h k hlt l hl hl2
      rw [sumL_drop hlt]
      by_cases e : szR (f xs[k]) l < 0
      · rw [if_pos e] at hs
        refine ⟨_, iterM_inr hs, ?_⟩
        show some (-1 : Int) = _
        congr 1
        rw [szR_neg] at e
        unfold szR
        rw [if_neg (by omega)]
      · rw [if_neg e] at hs
        obtain ⟨e1, e2⟩ := szR_nn (t := f xs[k]) (left := l) (by omega)
        obtain ⟨r, r1, r2⟩ := ih (k + 1) (szR (f xs[k]) l) (by omega) (by omega) (by omega)
        refine ⟨r, by rw [iterM_inl hs]; exact r1, ?_⟩
        rw [r2]
        congr 1
        rw [e2]
        unfold szR
        by_cases e3 : (sumL f (xs.drop (k + 1)) : Int) ≤ l - f xs[k]
        · rw [if_pos e3, if_pos (by omega)]; omega
        · rw [if_neg e3, if_neg (by omega)]
  obtain ⟨r, r1, r2⟩ := key xs.length 0 l0 (by omega) h0 h1
  have r1' : iterM step (xs.length + 1) (l0, (0 : Int)) = some r := r1
  rw [loopM_of r1' (by omega), Option.bind_some]
  simpa using r2

/-! ### Marks -/

/-- Marks, place by place, and what is held of them: the number behind them is the same. -/
theorem mark_loop {T : Type} {step : List α × Int × Int → Option ((List α × Int × Int) ⊕ T)} (fin : List α → Int → T) {held : List α → Int × Int → Option ((Int × Int) ⊕ (Int ⊕ Int))} (xs : List α) (B : Nat) (C : Int)
    (h : ∀ (ys : List α) (k : Int) (i : Nat) (hi : i < ys.length), ys.length = xs.length → ys[i] ∈ xs → 0 ≤ k → k ≤ C → ∃ y k', step (ys, k, (i : Int)) = some (.inl (ys.set i y, k', ((i + 1 : Nat) : Int))) ∧ k ≤ k' ∧ k' ≤ k + B ∧
      ∀ zs : List α, zs.length = xs.length → zs[i]? = some y → held zs (k, (i : Int)) = some (.inl (k', ((i + 1 : Nat) : Int))))
    (hend : ∀ (ys : List α) (k : Int), ys.length = xs.length → step (ys, k, (xs.length : Int)) = some (.inr (fin ys k)))
    (hend2 : ∀ (ys : List α) (k : Int), ys.length = xs.length → held ys (k, (xs.length : Int)) = some (.inr (.inl k)))
    (hlen : xs.length < 576460752303423488) {k0 : Int} (h0 : 0 ≤ k0) (hB : k0 + B * xs.length ≤ C) :
    ∃ ys k', loopM step (xs, k0, 0) = some (fin ys k') ∧ ys.length = xs.length ∧ k0 ≤ k' ∧ k' ≤ k0 + B * xs.length ∧ loopM (held ys) (k0, 0) = some (.inl k') := by
  have key : ∀ m i (ys : List α) (k : Int), i + m = xs.length → ys.length = xs.length → (∀ j, i ≤ j → ys[j]? = xs[j]?) → 0 ≤ k → k + B * m ≤ C →
      ∃ ys' k', iterM step (m + 1) (ys, k, (i : Int)) = some (fin ys' k') ∧ ys'.length = xs.length ∧ ys'.take i = ys.take i ∧ k ≤ k' ∧ k' ≤ k + B * m ∧ iterM (held ys') (m + 1) (k, (i : Int)) = some (.inl k') := by
    intro m
    induction m with
    | zero =>
      intro i ys k hi hl hd hk hB
      have : i = xs.length := by omega
      subst this
      exact ⟨ys, k, iterM_inr (hend ys k hl), hl, rfl, by omega, by omega, iterM_inr (hend2 ys k hl)⟩
    | succ m ih =>
      intro i ys k hi hl hd hk hB
      have hlt : i < ys.length := by omega
      have hlt2 : i < xs.length := by omega
      have hm : ys[i] ∈ xs := by
        have h1 := hd i (Nat.le_refl _)
        rw [List.getElem?_eq_getElem hlt, List.getElem?_eq_getElem hlt2] at h1
        injection h1 with h1
        rw [h1]
        exact List.getElem_mem hlt2
      have hBm : (B : Int) * ((m + 1 : Nat) : Int) = B * m + B := by
        rw [Int.natCast_add, Int.mul_add]; simp
      have hBm0 : (0 : Int) ≤ B * m := Int.mul_nonneg (by omega) (by omega)
      obtain ⟨y, k', h1, h2, h3, h4⟩ := h ys k i hlt hl hm hk (by omega)
      obtain ⟨ys', k2, r1, r2, r3, r4, r5, r6⟩ := ih (i + 1) (ys.set i y) k' (by omega) (by rw [List.length_set]; exact hl) (fun j hj => by rw [List.getElem?_set_ne (by omega)]; exact hd j (by omega)) (by omega) (by omega)
      have hy : ys'[i]? = some y := by
        have e1 := congrArg (fun l => l[i]?) r3
        simp only [List.getElem?_take, if_pos (Nat.lt_succ_self i)] at e1
        rw [e1, List.getElem?_set_self hlt]
      refine ⟨ys', k2, by rw [iterM_inl h1]; exact r1, r2, ?_, by omega, by omega, by rw [iterM_inl (h4 ys' r2 hy)]; exact r6⟩
      apply List.ext_getElem?
      intro j
      rw [List.getElem?_take, List.getElem?_take]
      by_cases hj : j < i
      · rw [if_pos hj, if_pos hj]
        have e1 := congrArg (fun l => l[j]?) r3
        simp only [List.getElem?_take, if_pos (show j < i + 1 by omega)] at e1
        rw [e1, List.getElem?_set_ne (by omega)]
      · rw [if_neg hj, if_neg hj]
  obtain ⟨ys', k', r1, r2, _, r4, r5, r6⟩ := key xs.length 0 xs k0 (by omega) rfl (fun _ _ => rfl) h0 hB
  exact ⟨ys', k', loopM_of r1 (by omega), r2, r4, r5, loopM_of r6 (by omega)⟩
/-- Marks, place by place. -/
theorem mark_only {T : Type} {step : List α × Int × Int → Option ((List α × Int × Int) ⊕ T)} (fin : List α → Int → T) (xs : List α) (B : Nat) (C : Int)
    (h : ∀ (ys : List α) (k : Int) (i : Nat) (hi : i < ys.length), ys.length = xs.length → ys[i] ∈ xs → 0 ≤ k → k ≤ C → ∃ y k', step (ys, k, (i : Int)) = some (.inl (ys.set i y, k', ((i + 1 : Nat) : Int))) ∧ k ≤ k' ∧ k' ≤ k + B)
    (hend : ∀ (ys : List α) (k : Int), ys.length = xs.length → step (ys, k, (xs.length : Int)) = some (.inr (fin ys k)))
    (hlen : xs.length < 576460752303423488) {k0 : Int} (h0 : 0 ≤ k0) (hB : k0 + B * xs.length ≤ C) :
    ∃ ys k', loopM step (xs, k0, 0) = some (fin ys k') ∧ ys.length = xs.length ∧ k0 ≤ k' ∧ k' ≤ k0 + B * xs.length := by
  have key : ∀ m i (ys : List α) (k : Int), i + m = xs.length → ys.length = xs.length → (∀ j, i ≤ j → ys[j]? = xs[j]?) → 0 ≤ k → k + B * m ≤ C →
      ∃ ys' k', iterM step (m + 1) (ys, k, (i : Int)) = some (fin ys' k') ∧ ys'.length = xs.length ∧ k ≤ k' ∧ k' ≤ k + B * m := by
    intro m
    induction m with
    | zero =>
      intro i ys k hi hl hd hk hB
      have : i = xs.length := by omega
      subst this
      exact ⟨ys, k, iterM_inr (hend ys k hl), hl, by omega, by omega⟩
    | succ m ih =>
      intro i ys k hi hl hd hk hB
      have hlt : i < ys.length := by omega
      have hlt2 : i < xs.length := by omega
      have hm : ys[i] ∈ xs := by
        have h1 := hd i (Nat.le_refl _)
        rw [List.getElem?_eq_getElem hlt, List.getElem?_eq_getElem hlt2] at h1
        injection h1 with h1
        rw [h1]
        exact List.getElem_mem hlt2
      have hBm : (B : Int) * ((m + 1 : Nat) : Int) = B * m + B := by
        rw [Int.natCast_add, Int.mul_add]; simp
      have hBm0 : (0 : Int) ≤ B * m := Int.mul_nonneg (by omega) (by omega)
      obtain ⟨y, k', h1, h2, h3⟩ := h ys k i hlt hl hm hk (by omega)
      obtain ⟨ys', k2, r1, r2, r4, r5⟩ := ih (i + 1) (ys.set i y) k' (by omega) (by rw [List.length_set]; exact hl) (fun j hj => by rw [List.getElem?_set_ne (by omega)]; exact hd j (by omega)) (by omega) (by omega)
      exact ⟨ys', k2, by rw [iterM_inl h1]; exact r1, r2, by omega, by omega⟩
  obtain ⟨ys', k', r1, r2, r4, r5⟩ := key xs.length 0 xs k0 (by omega) rfl (fun _ _ => rfl) h0 hB
  exact ⟨ys', k', loopM_of r1 (by omega), r2, r4, r5⟩
end
end Go.Proofs.YtionokffhhiicaaGreatDoor

namespace Go.Proofs.YtionokffhhiicaaGreatDoor
open Go.RowKit

section
variable {α : Type}
theorem szS_len {len : Nat} {l : Int} (hl : 0 ≤ l) (h2 : l ≤ 1048576) (hlen : len ≤ 9223372036854775807) {K : Int → Option Int} {t : Nat} (hK : ∀ l', 0 ≤ l' → l' ≤ 1048576 → K l' = some (szR t l')) :
    ((i64 (l - (len : Int))).bind fun v => if cmpI .lss v (0 : Int) = true then some (-1 : Int) else K v) = some (szR (len + t) l) := by
  rw [i64_of (by omega) (by omega), Option.bind_some]
  cases h : cmpI .lss (l - (len : Int)) 0 with
  | true =>
    have h' : l - (len : Int) < 0 := of_decide_eq_true h
    rw [if_pos rfl]
    unfold szR
    rw [if_neg (by omega)]
  | false =>
    have h' : ¬ l - (len : Int) < 0 := of_decide_eq_false h
    rw [if_neg (by decide), hK _ (by omega) (by omega)]
    congr 1
    unfold szR
    by_cases e : (t : Int) ≤ l - len
    · rw [if_pos e, if_pos (by omega)]; omega
    · rw [if_neg e, if_neg (by omega)]
theorem szS_sub {t1 t : Nat} {l : Int} {m : Option Int} (hl : 0 ≤ l) (h2 : l ≤ 1048576) (hm : m = some (szR t1 l)) {K : Int → Option Int} (hK : ∀ l', 0 ≤ l' → l' ≤ 1048576 → K l' = some (szR t l')) :
    (m.bind fun v => if cmpI .lss v (0 : Int) = true then some (-1 : Int) else K v) = some (szR (t1 + t) l) := by
  rw [hm, Option.bind_some]
  cases h : cmpI .lss (szR t1 l) 0 with
  | true =>
    have h' : szR t1 l < 0 := of_decide_eq_true h
    rw [szR_neg] at h'
    rw [if_pos rfl]
    unfold szR
    rw [if_neg (by omega)]
  | false =>
    have h' : ¬ szR t1 l < 0 := of_decide_eq_false h
    obtain ⟨e1, e2⟩ := szR_nn (t := t1) (left := l) (by omega)
    rw [if_neg (by decide), hK _ (by omega) (by omega), e2]
    congr 1
    unfold szR
    by_cases e : (t : Int) ≤ l - t1
    · rw [if_pos e, if_pos (by omega)]; omega
    · rw [if_neg e, if_neg (by omega)]
theorem szS_end {l : Int} (h : 0 ≤ l) : some l = some (szR 0 l) := by
  congr 1
  unfold szR
  rw [if_pos (by omega)]
  simp
/-- The length of a list, and then its elements. -/
theorem szS_list {step : Int × Int → Option ((Int × Int) ⊕ (Int ⊕ Int))} {xs : List α} {f : α → Nat} {l : Int} (hlen : xs.length ≤ 9223372036854775807)
    (h : ∀ k (hk : k < xs.length) (l : Int), xs.length ≤ 1048576 → 0 ≤ l → l ≤ 1048576 → step (l, (k : Int)) = some (if szR (f xs[k]) l < 0 then .inr (.inr (-1)) else .inl (szR (f xs[k]) l, ((k + 1 : Nat) : Int))))
    (hend : ∀ l, step (l, (xs.length : Int)) = some (.inr (.inl l))) (hl : 0 ≤ l) (h2 : l ≤ 1048576) :
    ((i64 (l - (xs.length : Int))).bind fun v => if cmpI .lss v (0 : Int) = true then some (-1 : Int) else Option.bind (α := Int ⊕ Int) (loopM step (v, (0 : Int))) (Sum.elim (fun b => some b) some)) = some (szR (xs.length + sumL f xs) l) := by
  rw [i64_of (by omega) (by omega), Option.bind_some]
  cases hc : cmpI .lss (l - (xs.length : Int)) 0 with
  | true =>
    have h' : l - (xs.length : Int) < 0 := of_decide_eq_true hc
    rw [if_pos rfl]
    unfold szR
    rw [if_neg (by omega)]
  | false =>
    have h' : ¬ l - (xs.length : Int) < 0 := of_decide_eq_false hc
    rw [if_neg (by decide), sz_loop xs f (fun k hk l h3 h4 => h k hk l (by omega) h3 h4) hend (by omega) (by omega) (by omega)]
    congr 1
    unfold szR
    by_cases e : (sumL f xs : Int) ≤ l - xs.length
    · rw [if_pos e, if_pos (by omega)]; omega
    · rw [if_neg e, if_neg (by omega)]

/-! ### Comparisons -/
variable {q : Prop} [Decidable q] {K : Option Bool}
theorem eqS_int {a b : Int} (hK : K = some (decide q)) : (if cmpI .neq a b = true then some false else K) = some (decide (a = b ∧ q)) := by
  rw [hK]
  by_cases h : a = b
  · simp [cmpI, h]
  · simp [cmpI, h]
theorem eqS_str {a b : Str} (hK : K = some (decide q)) : (if decide (a ≠ b) = true then some false else K) = some (decide (a = b ∧ q)) := by
  rw [hK]
  by_cases h : a = b
  · simp [h]
  · simp [h]
theorem eqS_bool {a b : Bool} (hK : K = some (decide q)) : (if (a != b) = true then some false else K) = some (decide (a = b ∧ q)) := by
  rw [hK]
  by_cases h : a = b
  · simp [h]
  · simp [h]
theorem eqS_sub [DecidableEq α] {a b : α} {m : Option Bool} (hm : m = some (decide (a = b))) (hK : K = some (decide q)) : (m.bind fun v => if (!v) = true then some false else K) = some (decide (a = b ∧ q)) := by
  rw [hm, hK, Option.bind_some]
  by_cases h : a = b
  · simp [h]
  · simp [h]
theorem eqS_end : some true = some (decide True) := by simp
theorem eqS_list [DecidableEq α] {step : Int → Option (Int ⊕ (Unit ⊕ Bool))} {xs ys : List α}
    (h : ∀ k (hk : k < xs.length) (hk2 : k < ys.length), step (k : Int) = some (if xs[k] = ys[k] then .inl ((k + 1 : Nat) : Int) else .inr (.inr false)))
    (hend : step (xs.length : Int) = some (.inr (.inl ()))) (hlen : xs.length < 576460752303423488) :
    (if cmpI .neq (xs.length : Int) (ys.length : Int) = true then some false else Option.bind (α := Unit ⊕ Bool) (loopM step 0) (Sum.elim (fun _ => some true) some)) = some (decide (xs = ys)) := by
  rw [neq_len]
  by_cases e : xs.length = ys.length
  · rw [if_neg (by simp [e]), eq_loop xs ys e h hend hlen]
  · rw [if_pos (by simp [e])]
    have : xs ≠ ys := fun h => e (by rw [h])
    simp [this]
end

/-! ### Numbers of marks -/

theorem i64_in {n : Int} (h1 : 0 ≤ n) (h2 : n ≤ 4611686018427387904) : i64 n = some n := i64_of (by omega) (by omega)
theorem modO_of {m n : Int} (h : n ≠ 0) : modO m n = some (m.tmod n) := if_neg h
theorem divO_of {m n : Int} (h : n ≠ 0) (h2 : 0 ≤ m.tdiv n) (h3 : m.tdiv n ≤ 9223372036854775807) : divO m n = some (m.tdiv n) := if_neg (by omega)
theorem lss_at {α : Type} {xs : List α} {k : Nat} (hk : k < xs.length) : cmpI .lss (k : Int) (xs.length : Int) = true := by rw [lss_nat]; exact decide_eq_true hk
theorem lss_end {α : Type} {xs : List α} : cmpI .lss (xs.length : Int) (xs.length : Int) = false := by rw [lss_nat]; simp
theorem lss_at' {α : Type} {xs : List α} {n k : Nat} (h : xs.length = n) (hk : k < n) : cmpI .lss (k : Int) (xs.length : Int) = true := by rw [lss_nat]; exact decide_eq_true (by omega)
theorem lss_end' {α : Type} {xs : List α} {n : Nat} (h : xs.length = n) : cmpI .lss (n : Int) (xs.length : Int) = false := by rw [lss_nat, h]; simp
theorem atI_at {α : Type} {xs : List α} {k : Nat} (hk : k < xs.length) : atI xs (k : Int) = some xs[k] := by rw [atI_nat, List.getElem?_eq_getElem hk]
theorem toNat_nat (k : Nat) : (k : Int).toNat = k := rfl
end Go.Proofs.YtionokffhhiicaaGreatDoor

namespace Go.Proofs.YtionokffhhiicaaGreatDoor
open Go.RowKit

/-- The text of a mark. -/
def txt (k : Int) : Str := (m_laws_markText k).getD ⟨[]⟩
theorem neq_self (n : Int) : cmpI .neq n n = false := by simp [cmpI]
theorem markText_ex {k : Int} (h1 : 0 ≤ k) (h2 : k ≤ 4611686018427387904) : ∃ s, m_laws_markText k = some s := by
  unfold m_laws_markText
  by_cases hk : k ≤ 0
  · rw [if_pos (by simp [cmpI, hk])]; exact ⟨_, rfl⟩
  · rw [if_neg (by simp [cmpI]; omega)]
    have key : ∀ (m : Nat) (n : Int) (s : Str), 0 ≤ n → n < 10 ^ m → n ≤ 4611686018427387904 → m ≤ 20 → (s.l.length : Int) ≤ 40 - m → ∃ o, iterM (fun s8 => m_laws_markText_s0 s8) (m + 1) (n, s) = some o ∧ o.l.length ≤ 40 := by
      intro m
      induction m with
      | zero =>
        intro n s h1 h2 _ _ h4
        have hn : n = 0 := by simp at h2; omega
        subst hn
        refine ⟨s, iterM_inr ?_, by omega⟩
        unfold m_laws_markText_s0
        rfl
      | succ m ih =>
        intro n s h1 h2 hb h3 h4
        have h5 : n.tdiv 10 = n / 10 := Int.tdiv_eq_ediv_of_nonneg h1
        have h6 : n.tmod 10 = n % 10 := Int.tmod_eq_emod_of_nonneg h1
        by_cases hn : n ≤ 0
        · refine ⟨s, iterM_inr ?_, by omega⟩
          unfold m_laws_markText_s0
          rw [if_neg (by simp [cmpI]; omega)]
        · have hs : m_laws_markText_s0 (n, s) = some (.inl (n / 10, ⟨[toB (48 + n % 10)] ++ s.l⟩)) := by
            unfold m_laws_markText_s0
            simp only
            rw [if_pos (by simp [cmpI]; omega), modO_of (by decide), Option.bind_some, h6, i64_of (by omega) (by omega), Option.bind_some, catO_of (by simp; omega), Option.bind_some, divO_of (by decide) (by omega) (by omega), h5]
            rfl
          rw [iterM_inl hs]
          refine ih (n / 10) _ (by omega) ?_ (by omega) (by omega) (by simp; omega)
          have : (10 : Int) ^ (m + 1) = 10 * 10 ^ m := by rw [Int.pow_succ]; omega
          omega
    have e : (10 : Int) ^ 19 = 10000000000000000000 := by decide
    obtain ⟨o, ho, hl⟩ := key 19 k ⟨[]⟩ h1 (by omega) h2 (by omega) (by simp)
    rw [loopM_of ho (by decide), Option.bind_some, catO_of (by simp; omega)]
    exact ⟨_, rfl⟩
theorem markText_eq {k : Int} (h1 : 0 ≤ k) (h2 : k ≤ 4611686018427387904) : m_laws_markText k = some (txt k) := by
  obtain ⟨s, hs⟩ := markText_ex h1 h2
  rw [txt, hs]
  rfl
def totStmt (x : Stmt) : Nat := x.module.l.length + (x.name.l.length + (0))
theorem szStmt_eq {x : Stmt} {l : Int} (h0 : Okd x) (hl : 0 ≤ l) (h2 : l ≤ 1048576) : m_laws_szStmt x l = some (szR (totStmt x) l) := by
  unfold m_laws_szStmt totStmt
  exact szS_len hl h2 ((h0.fld Stmt.fld1)).str (fun v1 l1 u1 => szS_len l1 u1 ((h0.fld Stmt.fld3)).str (fun v2 l2 u2 => szS_end l2))
def totStmtS (xs : List Stmt) : Nat := xs.length + sumL totStmt xs
theorem lenStmtS_le {x : List Stmt} {n : Nat} (h : totStmtS x ≤ n) : x.length ≤ n := by unfold totStmtS at h; omega
theorem szStmtS_eq {x : List Stmt} {l : Int} (h0 : Okd x) (hl : 0 ≤ l) (h2 : l ≤ 1048576) : m_laws_szStmtS x l = some (szR (totStmtS x) l) := by
  unfold m_laws_szStmtS totStmtS
  refine szS_list h0.len (fun k hk l hn h3 h4 => ?_) (fun l => ?_) hl h2
  · unfold m_laws_szStmtS_s0
    simp only [lss_at hk, if_true, atI_at hk, Option.bind_some, szStmt_eq (h0.mem (List.getElem_mem hk)) h3 h4]
    by_cases e : szR (totStmt x[k]) l < 0
    · rw [if_pos (by simp [cmpI, e]), if_pos e]
    · rw [if_neg (by simp [cmpI]; omega), if_neg e, i64_succ (by omega)]; rfl
  · unfold m_laws_szStmtS_s0
    rw [lss_end]; rfl
def totFile (x : File) : Nat := x.pkg.l.length + (x.name.l.length + (totStmtS x.body + (0)))
theorem szFile_eq {x : File} {l : Int} (h0 : Okd x) (hl : 0 ≤ l) (h2 : l ≤ 1048576) : m_laws_szFile x l = some (szR (totFile x) l) := by
  unfold m_laws_szFile totFile
  exact szS_len hl h2 ((h0.fld File.fld1)).str (fun v1 l1 u1 => szS_len l1 u1 ((h0.fld File.fld2)).str (fun v2 l2 u2 => szS_sub l2 u2 (szStmtS_eq (h0.fld File.fld5) l2 u2) (fun v3 l3 u3 => szS_end l3)))
def totFileS (xs : List File) : Nat := xs.length + sumL totFile xs
theorem szFileS_eq {x : List File} {l : Int} (h0 : Okd x) (hl : 0 ≤ l) (h2 : l ≤ 1048576) : m_laws_szFileS x l = some (szR (totFileS x) l) := by
  unfold m_laws_szFileS totFileS
  refine szS_list h0.len (fun k hk l hn h3 h4 => ?_) (fun l => ?_) hl h2
  · unfold m_laws_szFileS_s0
    simp only [lss_at hk, if_true, atI_at hk, Option.bind_some, szFile_eq (h0.mem (List.getElem_mem hk)) h3 h4]
    by_cases e : szR (totFile x[k]) l < 0
    · rw [if_pos (by simp [cmpI, e]), if_pos e]
    · rw [if_neg (by simp [cmpI]; omega), if_neg e, i64_succ (by omega)]; rfl
  · unfold m_laws_szFileS_s0
    rw [lss_end]; rfl
def totTree (x : Tree) : Nat := totFileS x.files + (0)
theorem szTree_eq {x : Tree} {l : Int} (h0 : Okd x) (hl : 0 ≤ l) (h2 : l ≤ 1048576) : m_laws_szTree x l = some (szR (totTree x) l) := by
  unfold m_laws_szTree totTree
  exact szS_sub hl h2 (szFileS_eq (h0.fld Tree.fld0) hl h2) (fun v1 l1 u1 => szS_end l1)
def totStringS (xs : List Str) : Nat := xs.length + sumL (fun s : Str => s.l.length) xs
theorem lenStringS_le {x : List Str} {n : Nat} (h : totStringS x ≤ n) : x.length ≤ n := by unfold totStringS at h; omega
def totDir (x : Dir) : Nat := x.pkg.l.length + (totStringS x.names + (0))
theorem szStringS_eq {x : List Str} {l : Int} (h0 : Okd x) (hl : 0 ≤ l) (h2 : l ≤ 1048576) : m_laws_szStringS x l = some (szR (totStringS x) l) := by
  unfold m_laws_szStringS totStringS
  refine szS_list h0.len (fun k hk l hn h3 h4 => ?_) (fun l => ?_) hl h2
  · have h5 := (h0.mem (List.getElem_mem hk)).str
    unfold m_laws_szStringS_s0
    simp only [lss_at hk, if_true, atI_at hk, Option.bind_some]
    rw [i64_of (by omega) (by omega), Option.bind_some]
    unfold szR
    by_cases e : ((x[k].l.length : Nat) : Int) ≤ l
    · rw [if_pos e, if_neg (by simp [cmpI]; omega), i64_succ (by omega), if_neg (by omega)]; rfl
    · rw [if_neg e, if_pos (by simp [cmpI]; omega), if_pos (by omega)]
  · unfold m_laws_szStringS_s0
    rw [lss_end]; rfl
theorem szDir_eq {x : Dir} {l : Int} (h0 : Okd x) (hl : 0 ≤ l) (h2 : l ≤ 1048576) : m_laws_szDir x l = some (szR (totDir x) l) := by
  unfold m_laws_szDir totDir
  exact szS_len hl h2 ((h0.fld Dir.fld1)).str (fun v1 l1 u1 => szS_sub l1 u1 (szStringS_eq (h0.fld Dir.fld3) l1 u1) (fun v2 l2 u2 => szS_end l2))
def totDirS (xs : List Dir) : Nat := xs.length + sumL totDir xs
theorem szDirS_eq {x : List Dir} {l : Int} (h0 : Okd x) (hl : 0 ≤ l) (h2 : l ≤ 1048576) : m_laws_szDirS x l = some (szR (totDirS x) l) := by
  unfold m_laws_szDirS totDirS
  refine szS_list h0.len (fun k hk l hn h3 h4 => ?_) (fun l => ?_) hl h2
  · unfold m_laws_szDirS_s0
    simp only [lss_at hk, if_true, atI_at hk, Option.bind_some, szDir_eq (h0.mem (List.getElem_mem hk)) h3 h4]
    by_cases e : szR (totDir x[k]) l < 0
    · rw [if_pos (by simp [cmpI, e]), if_pos e]
    · rw [if_neg (by simp [cmpI]; omega), if_neg e, i64_succ (by omega)]; rfl
  · unfold m_laws_szDirS_s0
    rw [lss_end]; rfl
def totDisk (x : Disk) : Nat := totTree x.tree + (totDirS x.dirs + (0))
theorem szDisk_eq {x : Disk} {l : Int} (h0 : Okd x) (hl : 0 ≤ l) (h2 : l ≤ 1048576) : m_laws_szDisk x l = some (szR (totDisk x) l) := by
  unfold m_laws_szDisk totDisk
  exact szS_sub hl h2 (szTree_eq (h0.fld Disk.fld0) hl h2) (fun v1 l1 u1 => szS_sub l1 u1 (szDirS_eq (h0.fld Disk.fld2) l1 u1) (fun v2 l2 u2 => szS_end l2))
def totFinder (x : Finder) : Nat := totDirS x.dirs + (0)
theorem szFinder_eq {x : Finder} {l : Int} (h0 : Okd x) (hl : 0 ≤ l) (h2 : l ≤ 1048576) : m_laws_szFinder x l = some (szR (totFinder x) l) := by
  unfold m_laws_szFinder totFinder
  exact szS_sub hl h2 (szDirS_eq (h0.fld Finder.fld0) hl h2) (fun v1 l1 u1 => szS_end l1)
theorem eqStmt_eq {x y : Stmt} : m_laws_eqStmt x y = some (decide (x = y)) := by
  have e : (x = y) = (x.kind = y.kind ∧ x.module = y.module ∧ x.level = y.level ∧ x.name = y.name ∧ x.value = y.value ∧ True) := by cases x; cases y; simp
  unfold m_laws_eqStmt
  simp only [e]
  exact eqS_int (eqS_str (eqS_int (eqS_str (eqS_int (eqS_end)))))
theorem eqStmtS_eq {x y : List Stmt} (h : x.length ≤ 288230376151711744) : m_laws_eqStmtS x y = some (decide (x = y)) := by
  unfold m_laws_eqStmtS
  refine eqS_list (fun k hk hk2 => ?_) ?_ (by omega)
  · unfold m_laws_eqStmtS_s0
    simp only [lss_at hk, if_true, atI_at hk, atI_at hk2, Option.bind_some, eqStmt_eq, i64_succ (show k < 4611686018427387904 by omega)]
    by_cases e : x[k] = y[k] <;> simp [e]
  · unfold m_laws_eqStmtS_s0
    rw [lss_end]; rfl
theorem eqFile_eq {x y : File} (h : totFile x ≤ 288230376151711744) : m_laws_eqFile x y = some (decide (x = y)) := by
  have e : (x = y) = (x.root = y.root ∧ x.pkg = y.pkg ∧ x.name = y.name ∧ x.init = y.init ∧ x.stamp = y.stamp ∧ x.body = y.body ∧ True) := by cases x; cases y; simp
  unfold totFile at h
  unfold m_laws_eqFile
  simp only [e]
  exact eqS_int (eqS_str (eqS_str (eqS_bool (eqS_int (eqS_sub (eqStmtS_eq (lenStmtS_le (by omega))) (eqS_end))))))
theorem eqFileS_eq {x y : List File} (h : totFileS x ≤ 288230376151711744) : m_laws_eqFileS x y = some (decide (x = y)) := by
  unfold totFileS at h
  unfold m_laws_eqFileS
  refine eqS_list (fun k hk hk2 => ?_) ?_ (by omega)
  · unfold m_laws_eqFileS_s0
    simp only [lss_at hk, if_true, atI_at hk, atI_at hk2, Option.bind_some, eqFile_eq (x := x[k]) (y := y[k]) (by have := sumL_mem (f := totFile) (List.getElem_mem hk); omega), i64_succ (show k < 4611686018427387904 by omega)]
    by_cases e : x[k] = y[k] <;> simp [e]
  · unfold m_laws_eqFileS_s0
    rw [lss_end]; rfl
theorem eqTree_eq {x y : Tree} (h : totTree x ≤ 288230376151711744) : m_laws_eqTree x y = some (decide (x = y)) := by
  have e : (x = y) = (x.files = y.files ∧ True) := by cases x; cases y; simp
  unfold totTree at h
  unfold m_laws_eqTree
  simp only [e]
  exact eqS_sub (eqFileS_eq (by omega)) (eqS_end)
theorem eqStringS_eq {x y : List Str} (h : x.length ≤ 288230376151711744) : m_laws_eqStringS x y = some (decide (x = y)) := by
  unfold m_laws_eqStringS
  refine eqS_list (fun k hk hk2 => ?_) ?_ (by omega)
  · unfold m_laws_eqStringS_s0
    simp only [lss_at hk, if_true, atI_at hk, atI_at hk2, Option.bind_some, i64_succ (show k < 4611686018427387904 by omega)]
    by_cases e : x[k] = y[k] <;> simp [e, cmpI]
  · unfold m_laws_eqStringS_s0
    rw [lss_end]; rfl
theorem eqDir_eq {x y : Dir} (h : totDir x ≤ 288230376151711744) : m_laws_eqDir x y = some (decide (x = y)) := by
  have e : (x = y) = (x.root = y.root ∧ x.pkg = y.pkg ∧ x.stamp = y.stamp ∧ x.names = y.names ∧ True) := by cases x; cases y; simp
  unfold totDir at h
  unfold m_laws_eqDir
  simp only [e]
  exact eqS_int (eqS_str (eqS_int (eqS_sub (eqStringS_eq (lenStringS_le (by omega))) (eqS_end))))
theorem eqDirS_eq {x y : List Dir} (h : totDirS x ≤ 288230376151711744) : m_laws_eqDirS x y = some (decide (x = y)) := by
  unfold totDirS at h
  unfold m_laws_eqDirS
  refine eqS_list (fun k hk hk2 => ?_) ?_ (by omega)
  · unfold m_laws_eqDirS_s0
    simp only [lss_at hk, if_true, atI_at hk, atI_at hk2, Option.bind_some, eqDir_eq (x := x[k]) (y := y[k]) (by have := sumL_mem (f := totDir) (List.getElem_mem hk); omega), i64_succ (show k < 4611686018427387904 by omega)]
    by_cases e : x[k] = y[k] <;> simp [e]
  · unfold m_laws_eqDirS_s0
    rw [lss_end]; rfl
theorem eqDisk_eq {x y : Disk} (h : totDisk x ≤ 288230376151711744) : m_laws_eqDisk x y = some (decide (x = y)) := by
  have e : (x = y) = (x.tree = y.tree ∧ x.clock = y.clock ∧ x.dirs = y.dirs ∧ True) := by cases x; cases y; simp
  unfold totDisk at h
  unfold m_laws_eqDisk
  simp only [e]
  exact eqS_sub (eqTree_eq (by omega)) (eqS_int (eqS_sub (eqDirS_eq (by omega)) (eqS_end)))
theorem eqFinder_eq {x y : Finder} (h : totFinder x ≤ 288230376151711744) : m_laws_eqFinder x y = some (decide (x = y)) := by
  have e : (x = y) = (x.dirs = y.dirs ∧ x.fills = y.fills ∧ x.hits = y.hits ∧ True) := by cases x; cases y; simp
  unfold totFinder at h
  unfold m_laws_eqFinder
  simp only [e]
  exact eqS_sub (eqDirS_eq (by omega)) (eqS_int (eqS_int (eqS_end)))
theorem eqIntS_eq {x y : List Int} (h : x.length ≤ 288230376151711744) : m_laws_eqIntS x y = some (decide (x = y)) := by
  unfold m_laws_eqIntS
  refine eqS_list (fun k hk hk2 => ?_) ?_ (by omega)
  · unfold m_laws_eqIntS_s0
    simp only [lss_at hk, if_true, atI_at hk, atI_at hk2, Option.bind_some, i64_succ (show k < 4611686018427387904 by omega)]
    by_cases e : x[k] = y[k] <;> simp [e, cmpI]
  · unfold m_laws_eqIntS_s0
    rw [lss_end]; rfl
theorem toStmt_eq {x : Stmt} : m_laws_toStmt x = some x := by
  unfold m_laws_toStmt
  cases x; rfl
theorem toStmtS_eq {x : List Stmt} (h : totStmtS x ≤ 1048576) : m_laws_toStmtS x = some x := by
  unfold totStmtS at h
  unfold m_laws_toStmtS
  rw [makeO_of (by omega) (by omega) (by omega), Option.bind_some]
  have hl : loopM (fun s => m_laws_toStmtS_s0 x s) (List.replicate x.length zStmt, 0) = some x := by
    refine copy_loop x zStmt (fun k hk => ?_) (fun ys => ?_) (by omega) rfl
    · unfold m_laws_toStmtS_s0
      simp only [lss_at hk, if_true, atI_at hk, Option.bind_some, toStmt_eq, atI_nat, at_at hk, setO_nat (len_at hk), i64_succ (show k < 4611686018427387904 by omega), toNat_nat]
    · unfold m_laws_toStmtS_s0
      rw [lss_end]; rfl
  rw [hl]; rfl
theorem toFile_eq {x : File} (h : totFile x ≤ 1048576) : m_laws_toFile x = some x := by
  unfold totFile at h
  unfold m_laws_toFile
  rw [toStmtS_eq (x := x.body) (by omega), Option.bind_some]
theorem toFileS_eq {x : List File} (h : totFileS x ≤ 1048576) : m_laws_toFileS x = some x := by
  unfold totFileS at h
  unfold m_laws_toFileS
  rw [makeO_of (by omega) (by omega) (by omega), Option.bind_some]
  have hl : loopM (fun s => m_laws_toFileS_s0 x s) (List.replicate x.length zFile, 0) = some x := by
    refine copy_loop x zFile (fun k hk => ?_) (fun ys => ?_) (by omega) rfl
    · unfold m_laws_toFileS_s0
      simp only [lss_at hk, if_true, atI_at hk, Option.bind_some, toFile_eq (x := x[k]) (by have := sumL_mem (f := totFile) (List.getElem_mem hk); omega), atI_nat, at_at hk, setO_nat (len_at hk), i64_succ (show k < 4611686018427387904 by omega), toNat_nat]
    · unfold m_laws_toFileS_s0
      rw [lss_end]; rfl
  rw [hl]; rfl
theorem toTree_eq {x : Tree} (h : totTree x ≤ 1048576) : m_laws_toTree x = some x := by
  unfold totTree at h
  unfold m_laws_toTree
  rw [toFileS_eq (x := x.files) (by omega), Option.bind_some]
theorem toStringS_eq {x : List Str} (h : totStringS x ≤ 1048576) : m_laws_toStringS x = some x := by
  unfold totStringS at h
  unfold m_laws_toStringS
  rw [makeO_of (by omega) (by omega) (by omega), Option.bind_some]
  have hl : loopM (fun s => m_laws_toStringS_s0 x s) (List.replicate x.length zStr, 0) = some x := by
    refine copy_loop x zStr (fun k hk => ?_) (fun ys => ?_) (by omega) rfl
    · unfold m_laws_toStringS_s0
      simp only [lss_at hk, if_true, atI_at hk, Option.bind_some, atI_nat, at_at hk, setO_nat (len_at hk), i64_succ (show k < 4611686018427387904 by omega), toNat_nat]
    · unfold m_laws_toStringS_s0
      rw [lss_end]; rfl
  rw [hl]; rfl
theorem toDir_eq {x : Dir} (h : totDir x ≤ 1048576) : m_laws_toDir x = some x := by
  unfold totDir at h
  unfold m_laws_toDir
  rw [toStringS_eq (x := x.names) (by omega), Option.bind_some]
theorem toDirS_eq {x : List Dir} (h : totDirS x ≤ 1048576) : m_laws_toDirS x = some x := by
  unfold totDirS at h
  unfold m_laws_toDirS
  rw [makeO_of (by omega) (by omega) (by omega), Option.bind_some]
  have hl : loopM (fun s => m_laws_toDirS_s0 x s) (List.replicate x.length zDir, 0) = some x := by
    refine copy_loop x zDir (fun k hk => ?_) (fun ys => ?_) (by omega) rfl
    · unfold m_laws_toDirS_s0
      simp only [lss_at hk, if_true, atI_at hk, Option.bind_some, toDir_eq (x := x[k]) (by have := sumL_mem (f := totDir) (List.getElem_mem hk); omega), atI_nat, at_at hk, setO_nat (len_at hk), i64_succ (show k < 4611686018427387904 by omega), toNat_nat]
    · unfold m_laws_toDirS_s0
      rw [lss_end]; rfl
  rw [hl]; rfl
theorem toDisk_eq {x : Disk} (h : totDisk x ≤ 1048576) : m_laws_toDisk x = some x := by
  unfold totDisk at h
  unfold m_laws_toDisk
  rw [toTree_eq (x := x.tree) (by omega), Option.bind_some]
  rw [toDirS_eq (x := x.dirs) (by omega), Option.bind_some]
theorem toFinder_eq {x : Finder} (h : totFinder x ≤ 1048576) : m_laws_toFinder x = some x := by
  unfold totFinder at h
  unfold m_laws_toFinder
  rw [toDirS_eq (x := x.dirs) (by omega), Option.bind_some]
theorem markStmtS_ok {x : List Stmt} {k : Int} (h : x.length ≤ 1125899906842624) (h0 : 0 ≤ k) (hB : k ≤ 1152921504606846976) : ∃ y k', m_laws_markStmtS x k = some (y, k') ∧ k ≤ k' ∧ k' ≤ k + 5 * (x.length : Int) := by
  have hl := mark_only (step := fun s => m_laws_markStmtS_s0 s) (fun ys k => (ys, k)) x 5 1170935903116328960 (fun ys k i hi hn hm h1 h2 => ?_) (fun ys k hn => ?_) (by omega) h0 (by omega)
  · obtain ⟨ys, k', r1, r2, r3, r4⟩ := hl
    refine ⟨ys, k', ?_, r3, by omega⟩
    · unfold m_laws_markStmtS
      rw [r1]; rfl
  · unfold m_laws_markStmtS_s0
    refine ⟨_, _, by simp only [lss_at hi, if_true, atI_at hi, Option.bind_some, toNat_nat, i64_in (n := k + 1) (by omega) (by omega), markText_eq (k := k + 1) (by omega) (by omega), i64_in (n := k + 1 + 1) (by omega) (by omega), i64_in (n := k + 1 + 1 + 1) (by omega) (by omega), markText_eq (k := k + 1 + 1 + 1) (by omega) (by omega), i64_in (n := k + 1 + 1 + 1 + 1) (by omega) (by omega), i64_in (n := k + 1 + 1 + 1 + 1 + 1) (by omega) (by omega), i64_succ (show i < 4611686018427387904 by omega)]; rfl, by omega, by omega⟩
  · unfold m_laws_markStmtS_s0
    simp only [lss_end' hn]; rfl
theorem markFileS_ok {x : List File} {k : Int} (h : totFileS x ≤ 1048576) (h0 : 0 ≤ k) (hB : k ≤ 576460752303423488) : ∃ y k', m_laws_markFileS x k = some (y, k') ∧ k ≤ k' ∧ k' ≤ k + 5497563381760 := by
  unfold totFileS at h
  have hl := mark_only (step := fun s => m_laws_markFileS_s0 s) (fun ys k => (ys, k)) x 5242885 594475150812905472 (fun ys k i hi hn hm h1 h2 => ?_) (fun ys k hn => ?_) (by omega) h0 (by omega)
  · obtain ⟨ys, k', r1, r2, r3, r4⟩ := hl
    refine ⟨ys, k', ?_, r3, by omega⟩
    · unfold m_laws_markFileS
      rw [r1]; rfl
  · unfold m_laws_markFileS_s0
    have hm5 := sumL_mem (f := totFile) hm
    have hu5 : totFile ys[i] = ys[i].pkg.l.length + (ys[i].name.l.length + (totStmtS ys[i].body + (0))) := rfl
    have hl5 : ys[i].body.length ≤ 1048576 := lenStmtS_le (by omega)
    obtain ⟨y5, k5, e5, a5, b5⟩ := markStmtS_ok (x := ys[i].body) (k := k + 1 + 1 + 1 + 1 + 1) (lenStmtS_le (n := 1125899906842624) (by omega)) (by omega) (by omega)
    refine ⟨_, _, by simp only [lss_at hi, if_true, atI_at hi, Option.bind_some, toNat_nat, i64_in (n := k + 1) (by omega) (by omega), markText_eq (k := k + 1) (by omega) (by omega), i64_in (n := k + 1 + 1) (by omega) (by omega), markText_eq (k := k + 1 + 1) (by omega) (by omega), i64_in (n := k + 1 + 1 + 1) (by omega) (by omega), modO_of (m := k + 1 + 1 + 1) (n := 3) (by decide), i64_in (n := k + 1 + 1 + 1 + 1) (by omega) (by omega), i64_in (n := k + 1 + 1 + 1 + 1 + 1) (by omega) (by omega), e5, i64_succ (show i < 4611686018427387904 by omega)]; rfl, by omega, by omega⟩
  · unfold m_laws_markFileS_s0
    simp only [lss_end' hn]; rfl
theorem markTree_ok {x : Tree} {k : Int} (h : totTree x ≤ 1048576) (h0 : 0 ≤ k) (hB : k ≤ 576425567931334656) : ∃ y k', m_laws_markTree x k = some (y, k') ∧ k ≤ k' ∧ k' ≤ k + 5497563381760 := by
  unfold totTree at h
  unfold m_laws_markTree
  obtain ⟨y0, k0, e0, a0, b0⟩ := markFileS_ok (x := x.files) (k := k) (by omega) (by omega) (by omega)
  exact ⟨_, k0, by simp only [e0, Option.bind_some]; rfl, by omega, by omega⟩
theorem markStringS_ok {x : List Str} {k : Int} (h : x.length ≤ 1125899906842624) (h0 : 0 ≤ k) (hB : k ≤ 1152921504606846976) : ∃ y k', m_laws_markStringS x k = some (y, k') ∧ k ≤ k' ∧ k' ≤ k + 1 * (x.length : Int) ∧ m_laws_heldStringS y k = some k' := by
  have hl := mark_loop (held := fun y s => m_laws_heldStringS_s0 y s) (step := fun s => m_laws_markStringS_s0 s) (fun ys k => (ys, k)) x 1 1170935903116328960 (fun ys k i hi hn hm h1 h2 => ?_) (fun ys k hn => ?_) (fun ys k hn => ?_) (by omega) h0 (by omega)
  · obtain ⟨ys, k', r1, r2, r3, r4, r5⟩ := hl
    refine ⟨ys, k', ?_, r3, by omega, ?_⟩
    · unfold m_laws_markStringS
      rw [r1]; rfl
    · unfold m_laws_heldStringS
      rw [r5]; rfl
  · unfold m_laws_markStringS_s0
    refine ⟨_, _, by simp only [lss_at hi, if_true, atI_at hi, Option.bind_some, toNat_nat, markText_eq (k := k) (by omega) (by omega), i64_in (n := k + 1) (by omega) (by omega), i64_succ (show i < 4611686018427387904 by omega)]; rfl, by omega, by omega, fun zs hz hzi => ?_⟩
    unfold m_laws_heldStringS_s0
    simp only [lss_at' hz (show i < x.length by omega), if_true, atI_nat, hzi, Option.bind_some, neq_self, ne_eq, not_true, decide_false, if_false, Bool.false_eq_true, bne_self_eq_false, not_true_eq_false, decide_not, markText_eq (k := k) (by omega) (by omega), i64_in (n := k + 1) (by omega) (by omega), i64_succ (show i < 4611686018427387904 by omega)]
    first | done | rfl | simp
  · unfold m_laws_markStringS_s0
    simp only [lss_end' hn]; rfl
  · unfold m_laws_heldStringS_s0
    simp only [lss_end' hn]; rfl
theorem markDirS_ok {x : List Dir} {k : Int} (h : totDirS x ≤ 1048576) (h0 : 0 ≤ k) (hB : k ≤ 576460752303423488) : ∃ y k', m_laws_markDirS x k = some (y, k') ∧ k ≤ k' ∧ k' ≤ k + 1099514773504 := by
  unfold totDirS at h
  have hl := mark_only (step := fun s => m_laws_markDirS_s0 s) (fun ys k => (ys, k)) x 1048579 594475150812905472 (fun ys k i hi hn hm h1 h2 => ?_) (fun ys k hn => ?_) (by omega) h0 (by omega)
  · obtain ⟨ys, k', r1, r2, r3, r4⟩ := hl
    refine ⟨ys, k', ?_, r3, by omega⟩
    · unfold m_laws_markDirS
      rw [r1]; rfl
  · unfold m_laws_markDirS_s0
    have hm3 := sumL_mem (f := totDir) hm
    have hu3 : totDir ys[i] = ys[i].pkg.l.length + (totStringS ys[i].names + (0)) := rfl
    have hl3 : ys[i].names.length ≤ 1048576 := lenStringS_le (by omega)
    obtain ⟨y3, k3, e3, a3, b3, c3⟩ := markStringS_ok (x := ys[i].names) (k := k + 1 + 1 + 1) (lenStringS_le (n := 1125899906842624) (by omega)) (by omega) (by omega)
    refine ⟨_, _, by simp only [lss_at hi, if_true, atI_at hi, Option.bind_some, toNat_nat, i64_in (n := k + 1) (by omega) (by omega), markText_eq (k := k + 1) (by omega) (by omega), i64_in (n := k + 1 + 1) (by omega) (by omega), i64_in (n := k + 1 + 1 + 1) (by omega) (by omega), e3, i64_succ (show i < 4611686018427387904 by omega)]; rfl, by omega, by omega⟩
  · unfold m_laws_markDirS_s0
    simp only [lss_end' hn]; rfl
theorem markDisk_ok {x : Disk} {k : Int} (h : totDisk x ≤ 1048576) (h0 : 0 ≤ k) (hB : k ≤ 576425567931334656) : ∃ y k', m_laws_markDisk x k = some (y, k') ∧ k ≤ k' ∧ k' ≤ k + 6597078155265 := by
  unfold totDisk at h
  unfold m_laws_markDisk
  obtain ⟨y0, k0, e0, a0, b0⟩ := markTree_ok (x := x.tree) (k := k) (by omega) (by omega) (by omega)
  obtain ⟨y2, k2, e2, a2, b2⟩ := markDirS_ok (x := x.dirs) (k := k0) (by omega) (by omega) (by omega)
  exact ⟨_, k2, by simp only [e0, e2, Option.bind_some]; rfl, by omega, by omega⟩
theorem markFinder_ok {x : Finder} {k : Int} (h : totFinder x ≤ 1048576) (h0 : 0 ≤ k) (hB : k ≤ 576425567931334656) : ∃ y k', m_laws_markFinder x k = some (y, k') ∧ k ≤ k' ∧ k' ≤ k + 1099514773506 := by
  unfold totFinder at h
  unfold m_laws_markFinder
  obtain ⟨y0, k0, e0, a0, b0⟩ := markDirS_ok (x := x.dirs) (k := k) (by omega) (by omega) (by omega)
  exact ⟨_, k0, by simp only [e0, Option.bind_some]; rfl, by omega, by omega⟩
theorem markIntS_ok {x : List Int} {k : Int} (h : x.length ≤ 1125899906842624) (h0 : 0 ≤ k) (hB : k ≤ 1152921504606846976) : ∃ y k', m_laws_markIntS x k = some (y, k') ∧ k ≤ k' ∧ k' ≤ k + 1 * (x.length : Int) ∧ m_laws_heldIntS y k = some k' := by
  have hl := mark_loop (held := fun y s => m_laws_heldIntS_s0 y s) (step := fun s => m_laws_markIntS_s0 s) (fun ys k => (ys, k)) x 1 1170935903116328960 (fun ys k i hi hn hm h1 h2 => ?_) (fun ys k hn => ?_) (fun ys k hn => ?_) (by omega) h0 (by omega)
  · obtain ⟨ys, k', r1, r2, r3, r4, r5⟩ := hl
    refine ⟨ys, k', ?_, r3, by omega, ?_⟩
    · unfold m_laws_markIntS
      rw [r1]; rfl
    · unfold m_laws_heldIntS
      rw [r5]; rfl
  · unfold m_laws_markIntS_s0
    refine ⟨_, _, by simp only [lss_at hi, if_true, atI_at hi, Option.bind_some, toNat_nat, i64_in (n := k + 1) (by omega) (by omega), i64_succ (show i < 4611686018427387904 by omega)]; rfl, by omega, by omega, fun zs hz hzi => ?_⟩
    unfold m_laws_heldIntS_s0
    simp only [lss_at' hz (show i < x.length by omega), if_true, atI_nat, hzi, Option.bind_some, neq_self, ne_eq, not_true, decide_false, if_false, Bool.false_eq_true, bne_self_eq_false, not_true_eq_false, decide_not, i64_in (n := k + 1) (by omega) (by omega), i64_succ (show i < 4611686018427387904 by omega)]
    first | done | rfl | simp
  · unfold m_laws_markIntS_s0
    simp only [lss_end' hn]; rfl
  · unfold m_laws_heldIntS_s0
    simp only [lss_end' hn]; rfl
end Go.Proofs.YtionokffhhiicaaGreatDoor

namespace Go.Proofs.YtionokffhhiicaaGreatDoor

theorem sm_tree {t : Tree} (h : totTree t ≤ 1048576) : smTree t := by
  have h1 : totTree t = totFileS t.files + 0 := rfl
  have h2 : totFileS t.files = t.files.length + sumL totFile t.files := rfl
  refine ⟨by omega, fun f hf => ?_⟩
  have h3 := sumL_mem (f := totFile) hf
  have h4 : totFile f = f.pkg.l.length + (f.name.l.length + (totStmtS f.body + (0))) := rfl
  have h5 : totStmtS f.body = f.body.length + sumL totStmt f.body := rfl
  refine ⟨by omega, by omega, by omega, fun s hs => ?_⟩
  have h6 := sumL_mem (f := totStmt) hs
  have h7 : totStmt s = s.module.l.length + (s.name.l.length + (0)) := rfl
  exact ⟨by omega, by omega⟩
def smDirs (l : List Dir) : Prop := l.length ≤ 1048576 ∧ ∀ d ∈ l, d.pkg.l.length ≤ 1048576 ∧ d.names.length ≤ 1048576
theorem sm_dirs {l : List Dir} (h : totDirS l ≤ 1048576) : smDirs l := by
  have h1 : totDirS l = l.length + sumL totDir l := rfl
  refine ⟨by omega, fun d hd => ?_⟩
  have h2 := sumL_mem (f := totDir) hd
  have h3 : totDir d = d.pkg.l.length + (totStringS d.names + (0)) := rfl
  have h4 : totStringS d.names = d.names.length + sumL (fun s : Str => s.l.length) d.names := rfl
  exact ⟨by omega, by omega⟩
theorem inRange_eq (a b c : Int) : m_spec_inRange a b c = some (inR a b c) := rfl

/-! ### Directories -/

def atDir (r : Int) (p : Str) (d : Dir) : Bool := cmpI .eql d.root r && decide (d.pkg = p)
theorem atDir_self (d : Dir) : atDir d.root d.pkg d = true := by simp [atDir, cmpI]
theorem dirAt_eq {l : List Dir} {r : Int} {p : Str} (h : l.length ≤ 1048576) : m_impl_dirAt l r p = some (idxOf (atDir r p) l) := by
  unfold m_impl_dirAt m_slices_IndexFunc_impl_Dir_impl_Dir
  have hl : loopM (fun s4 => m_slices_IndexFunc_impl_Dir_impl_Dir_s0 l (fun a0 => m_impl_dirAt_1 a0 r p) s4) 0 = some (match l.findIdx? (atDir r p) with | some i => (Sum.inr (i : Int) : Unit ⊕ Int) | none => Sum.inl ()) := by
    refine loop_idx l (atDir r p) (fun i => Sum.inr i) _ (fun k x hx hlt => ?_) ?_ (by omega) rfl
    · unfold m_slices_IndexFunc_impl_Dir_impl_Dir_s0
      rw [lss_nat, if_pos (decide_eq_true hlt), atI_nat, hx, Option.bind_some]
      show Option.bind (some (atDir r p x)) _ = _
      rw [Option.bind_some, i64_succ (by omega)]
      cases atDir r p x <;> rfl
    · unfold m_slices_IndexFunc_impl_Dir_impl_Dir_s0
      rw [lss_nat, if_neg (by simp)]
  rw [hl]
  unfold idxOf
  cases l.findIdx? (atDir r p) <;> rfl
theorem dirAt_eq' {l : List Dir} {r : Int} {p : Str} (h : l.length ≤ 1048576) : m_spec_dirAt l r p = some (idxOf (atDir r p) l) := by
  unfold m_spec_dirAt
  have hl : loopM (fun s4 => m_spec_dirAt_s0 l r p s4) 0 = some (match l.findIdx? (atDir r p) with | some i => (Sum.inr (i : Int) : Unit ⊕ Int) | none => Sum.inl ()) := by
    refine loop_idx l (atDir r p) (fun i => Sum.inr i) _ (fun k x hx hlt => ?_) ?_ (by omega) rfl
    · unfold m_spec_dirAt_s0
      rw [lss_nat, if_pos (decide_eq_true hlt), atI_nat, hx, Option.bind_some, gO_some, Option.bind_some, i64_succ (by omega)]
      unfold atDir
      cases cmpI .eql x.root r with
      | false => rfl
      | true => simp only [beq_self_eq_true, if_true, Bool.true_and]; cases decide (x.pkg = p) <;> rfl
    · unfold m_spec_dirAt_s0
      rw [lss_nat, if_neg (by simp)]
  rw [hl]
  exact idx_join _ _
theorem stampOf_eq {d : Disk} {r : Int} {p : Str} (h : d.dirs.length ≤ 1048576) : ∃ n, m_impl_stampOf d r p = some n ∧ m_spec_stampOf d r p = some n := by
  unfold m_impl_stampOf m_spec_stampOf
  rw [dirAt_eq h, dirAt_eq' h, Option.bind_some]
  have hlt := idxOf_lt (atDir r p) d.dirs
  cases hc : cmpI .lss (idxOf (atDir r p) d.dirs) 0 with
  | true => exact ⟨0, rfl, rfl⟩
  | false =>
    rw [if_neg (by decide)]
    have h0 := nneg0 hc
    obtain ⟨x, hx, _⟩ := get_some (l := d.dirs) (k := (idxOf (atDir r p) d.dirs).toNat) (by omega)
    have e : atI d.dirs (idxOf (atDir r p) d.dirs) = some x := by
      have := atI_nat d.dirs (idxOf (atDir r p) d.dirs).toNat
      rw [Int.toNat_of_nonneg h0] at this
      rw [this, hx]
    rw [e]
    exact ⟨x.stamp, rfl, rfl⟩
def dirFit (S n : Int) (l : List Dir) (k : Nat) : Bool := match l[k]? with
  | some d => !((((!inR d.root 0 2 || !validPackage d.pkg) || !inR d.stamp 0 S) || cmpI .gtr (d.names.length : Int) n) || (l.take k).any (atDir d.root d.pkg))
  | none => true
def dirsFit (S n : Int) (l : List Dir) : Bool := (List.range l.length).all (dirFit S n l) && cmpI .leq (l.length : Int) 20
theorem dirsOk_eq {S n : Int} {l : List Dir} (h : smDirs l) : m_impl_dirsOk l S n = some (dirsFit S n l) := by
  have hlen := h.1
  unfold m_impl_dirsOk
  have hl : loopM (fun s4 => m_impl_dirsOk_s0 l S n s4) 0 = some (if (List.range l.length).any (fun k => !dirFit S n l k) = true then .inr false else .inl ()) := by
    refine loop_any (List.range l.length) _ _ _ (fun k x hx hlt => ?_) ?_ (by rw [List.length_range]; omega) rfl
    · rw [List.length_range] at hlt
      rw [List.getElem?_range hlt] at hx
      injection hx with hx
      subst hx
      obtain ⟨d, hd, hm⟩ := get_some hlt
      have hpk : sho d.pkg := by have := (h.2 d hm).1; unfold sho; omega
      have htl : (l.take k).length ≤ 1048576 := by simp; omega
      have ht : dirFit S n l k = !((((!inR d.root 0 2 || !validPackage d.pkg) || !inR d.stamp 0 S) || cmpI .gtr (d.names.length : Int) n) || (l.take k).any (atDir d.root d.pkg)) := by unfold dirFit; rw [hd]
      unfold m_impl_dirsOk_s0
      rw [lss_nat, if_pos (decide_eq_true hlt), atI_nat, hd, Option.bind_some, within_eq, Option.bind_some, packageOk_eq hpk, within_eq, sliHO_nat (by omega), i64_succ (by omega), ht]
      cases inR d.root 0 2 with
      | false => rfl
      | true =>
        cases validPackage d.pkg with
        | false => rfl
        | true =>
          cases inR d.stamp 0 S with
          | false => rfl
          | true =>
            cases cmpI .gtr (d.names.length : Int) n with
            | true => rfl
            | false =>
              simp only [Bool.not_true, beq_self_eq_true, Bool.or_self, Bool.false_or, gO_true, Option.bind_some]
              rw [dirAt_eq htl, Option.bind_some, idxOf_ge]
              cases (l.take k).any (atDir d.root d.pkg) <;> rfl
    · unfold m_impl_dirsOk_s0
      rw [List.length_range, lss_nat, if_neg (by simp)]
  rw [hl, Option.bind_some, any_not]
  unfold dirsFit
  cases (List.range l.length).all (dirFit S n l) <;> rfl
theorem validDirs_eq {l : List Dir} (h : smDirs l) : m_spec_validDirs l = some (dirsFit 200 12 l) := by
  have hlen := h.1
  unfold m_spec_validDirs
  have hl : loopM (fun s4 => m_spec_validDirs_s0 l s4) 0 = some (if (List.range l.length).any (fun k => !dirFit 200 12 l k) = true then .inr false else .inl ()) := by
    refine loop_any (List.range l.length) _ _ _ (fun k x hx hlt => ?_) ?_ (by rw [List.length_range]; omega) rfl
    · rw [List.length_range] at hlt
      rw [List.getElem?_range hlt] at hx
      injection hx with hx
      subst hx
      obtain ⟨d, hd, hm⟩ := get_some hlt
      have hpk : m_spec_validPackage d.pkg = some (validPackage d.pkg) := if_pos (by have := (h.2 d hm).1; unfold mid; omega)
      have ht : dirFit 200 12 l k = !((((!inR d.root 0 2 || !validPackage d.pkg) || !inR d.stamp 0 200) || cmpI .gtr (d.names.length : Int) 12) || (l.take k).any (atDir d.root d.pkg)) := by unfold dirFit; rw [hd]
      unfold m_spec_validDirs_s0
      rw [lss_nat, if_pos (decide_eq_true hlt), atI_nat, hd, Option.bind_some, inRange_eq, Option.bind_some, i64_succ (by omega), ht]
      cases inR d.root 0 2 with
      | false => rfl
      | true =>
        rw [show ((!true) == false) = true from rfl, gO_true, Option.bind_some, gO_true, hpk, Option.bind_some]
        cases validPackage d.pkg with
        | false => rfl
        | true =>
          rw [show (((!true) || (!true)) == false) = true from rfl, gO_true, Option.bind_some, gO_true, inRange_eq, Option.bind_some]
          cases inR d.stamp 0 200 with
          | false => rfl
          | true =>
            rw [show ((((!true) || (!true)) || (!true)) == false) = true from rfl, gO_true, Option.bind_some, Option.bind_some, gO_true, dirAt_eq' hlen, Option.bind_some, idxOf_lss hd (atDir_self d)]
            cases (l.take k).any (atDir d.root d.pkg) with
            | true => cases cmpI .gtr (d.names.length : Int) 12 <;> rfl
            | false =>
              rw [show (((((!true) || (!true)) || (!true)) || false) == false) = true from rfl, gO_true, Option.bind_some]
              cases cmpI .gtr (d.names.length : Int) 12 <;> rfl
    · unfold m_spec_validDirs_s0
      rw [List.length_range, lss_nat, if_neg (by simp)]
  rw [hl, Option.bind_some, any_not]
  unfold dirsFit
  cases (List.range l.length).all (dirFit 200 12 l) <;> rfl

/-! ### Finders and disks -/

def finderFit (x : Finder) : Bool := (dirsFit 200 12 x.dirs && inR x.fills 0 1000) && inR x.hits 0 1000
theorem ValidFinder_eq {x : Finder} (h : smDirs x.dirs) : m_impl_ValidFinder x = some (finderFit x) := by
  unfold m_impl_ValidFinder finderFit
  rw [dirsOk_eq h, Option.bind_some, within_eq, within_eq, gO_some, Option.bind_some, gO_some, Option.bind_some]
  cases dirsFit 200 12 x.dirs with
  | false => rfl
  | true => cases inR x.fills 0 1000 <;> cases inR x.hits 0 1000 <;> rfl
theorem validFinder_eq {x : Finder} (h : smDirs x.dirs) : m_spec_validFinder x = some (finderFit x) := by
  unfold m_spec_validFinder finderFit
  rw [validDirs_eq h, Option.bind_some, inRange_eq, inRange_eq, gO_some, Option.bind_some, gO_some, Option.bind_some]
  cases dirsFit 200 12 x.dirs with
  | false => rfl
  | true => cases inR x.fills 0 1000 <;> cases inR x.hits 0 1000 <;> rfl
def diskFit (x : Disk) : Bool := (validTree x.tree && inR x.clock 0 200) && dirsFit x.clock 0 x.dirs
theorem ValidDisk_eq {x : Disk} (ht : smTree x.tree) (h : smDirs x.dirs) : m_impl_ValidDisk x = some (diskFit x) := by
  unfold m_impl_ValidDisk diskFit
  rw [ValidTree_eq ht, Option.bind_some, within_eq, dirsOk_eq h, gO_some, Option.bind_some, gO_some, Option.bind_some]
  cases validTree x.tree with
  | false => rfl
  | true => cases inR x.clock 0 200 <;> cases dirsFit x.clock 0 x.dirs <;> rfl
def plain (c : Int) (d : Dir) : Bool := cmpI .gtr d.stamp c || cmpI .gtr (d.names.length : Int) 0
theorem dirsFit_clock {c : Int} (hc : inR c 0 200 = true) (l : List Dir) : dirsFit c 0 l = (!l.any (plain c) && dirsFit 200 12 l) := by
  unfold inR at hc
  rw [Bool.and_eq_true] at hc
  have h1 : 0 ≤ c := of_decide_eq_true hc.1
  have h2 : c ≤ 200 := of_decide_eq_true hc.2
  unfold dirsFit
  rw [← Bool.and_assoc]
  congr 1
  rw [Bool.eq_iff_iff, List.all_eq_true, Bool.and_eq_true, List.all_eq_true, Bool.not_eq_true', List.any_eq_false]
  have key : ∀ (k : Nat) (d : Dir), l[k]? = some d → (dirFit c 0 l k = true ↔ plain c d = false ∧ dirFit 200 12 l k = true) := by
    intro k d hd
    unfold dirFit plain inR
    rw [hd]
    simp only [cmpI, Bool.not_eq_true', Bool.or_eq_false_iff, Bool.not_eq_false', Bool.and_eq_true, decide_eq_true_eq, decide_eq_false_iff_not]
    constructor
    · rintro ⟨⟨⟨⟨⟨a1, a2⟩, a3⟩, a4, a5⟩, a6⟩, a7⟩
      and_intros <;> first | assumption | omega
    · rintro ⟨⟨b1, b2⟩, ⟨⟨⟨⟨a1, a2⟩, a3⟩, a4, a5⟩, a6⟩, a7⟩
      and_intros <;> first | assumption | omega
  constructor
  · intro h
    refine ⟨fun d hd => ?_, fun k hk => ?_⟩
    · obtain ⟨k, hk⟩ := List.getElem?_of_mem hd
      rw [((key k d hk).1 (h k (List.mem_range.2 (lt_of_get hk)))).1]
      decide
    · obtain ⟨d, hd, _⟩ := get_some (List.mem_range.1 hk)
      exact ((key k d hd).1 (h k hk)).2
  · rintro ⟨ha, hb⟩ k hk
    obtain ⟨d, hd, hm⟩ := get_some (List.mem_range.1 hk)
    exact (key k d hd).2 ⟨by simpa using ha d hm, hb k hk⟩
theorem validDisk_eq {x : Disk} (ht : smTree x.tree) (h : smDirs x.dirs) : m_spec_validDisk x = some (diskFit x) := by
  have hlen := h.1
  unfold m_spec_validDisk
  have hl : loopM (fun s4 => m_spec_validDisk_s0 x s4) 0 = some (if x.dirs.any (plain x.clock) = true then (Sum.inr false : Unit ⊕ Bool) else .inl ()) := by
    refine loop_any x.dirs (plain x.clock) _ _ (fun k d hd hlt => ?_) ?_ (by omega) rfl
    · unfold m_spec_validDisk_s0 plain
      rw [lss_nat, if_pos (decide_eq_true hlt), atI_nat, hd, Option.bind_some, gO_some, Option.bind_some, i64_succ (by omega)]
      cases cmpI .gtr d.stamp x.clock with
      | true => rfl
      | false => simp only [beq_self_eq_true, if_true, Bool.false_or]; cases cmpI .gtr (d.names.length : Int) 0 <;> rfl
    · unfold m_spec_validDisk_s0
      rw [lss_nat, if_neg (by simp)]
  have e1 : m_spec_validTree x.tree = some (validTree x.tree) := if_pos ht
  rw [hl, Option.bind_some]
  unfold diskFit
  cases hc : inR x.clock 0 200 with
  | true =>
    rw [dirsFit_clock hc]
    cases x.dirs.any (plain x.clock) with
    | true => cases validTree x.tree <;> rfl
    | false =>
      rw [if_neg (by decide), Sum.elim_inl, e1, Option.bind_some, inRange_eq, hc, validDirs_eq h, gO_some, Option.bind_some, gO_some, Option.bind_some]
      cases validTree x.tree with
      | false => rfl
      | true => cases dirsFit 200 12 x.dirs <;> rfl
  | false =>
    cases x.dirs.any (plain x.clock) with
    | true => cases validTree x.tree <;> rfl
    | false =>
      rw [if_neg (by decide), Sum.elim_inl, e1, Option.bind_some, inRange_eq, hc, validDirs_eq h, gO_some, Option.bind_some, gO_some, Option.bind_some]
      cases validTree x.tree <;> rfl

/-! ### Listings -/

theorem Cut_eq {s : Str} (hs : s.l.length ≤ 4611686018427387904) : ∃ a b, m_strings_Cut s ⟨[46]⟩ = some ((((splitAt s dot)[0]?).getD emptyS), a, b) := by
  have hge := Lib.indexByte_ge s.l 46
  unfold m_strings_Cut m_internal_stringslite_Cut
  rw [show m_internal_stringslite_Index s ⟨[46]⟩ = some (Lib.indexByte s.l 46) from rfl, Option.bind_some, splitAt_cutF]
  cases hc : cmpI .geq (Lib.indexByte s.l 46) 0 with
  | false =>
    rw [if_neg (by decide), Option.bind_some]
    have h0 : Lib.indexByte s.l 46 < 0 := by have := of_decide_eq_false hc; omega
    have h1 : cutF dot s.l = [s.l] := indexByte_neg 46 s.l h0
    rw [h1]
    exact ⟨_, _, rfl⟩
  | true =>
    have h0 : 0 ≤ Lib.indexByte s.l 46 := of_decide_eq_true hc
    obtain ⟨h1, h2⟩ := indexByte_pos 46 s.l h0
    obtain ⟨n, hn⟩ : ∃ n : Nat, Lib.indexByte s.l 46 = n := ⟨_, (Int.toNat_of_nonneg h0).symm⟩
    rw [hn] at h1 h2 ⊢
    have h3 : cutF dot s.l = s.l.take n :: cutF 46 (s.l.drop (n + 1)) := h2
    have hl : n + 1 ≤ s.l.length := by omega
    rw [if_pos rfl, cutHO_nat (by omega), Option.bind_some, show ((n : Int) + ((⟨[46]⟩ : Str).l.length : Int)) = ((n : Int) + 1) from rfl, i64_of (by omega) (by omega), Option.bind_some, show ((n : Int) + 1) = ((n + 1 : Nat) : Int) from rfl, cutLO_nat hl, Option.bind_some, Option.bind_some, h3]
    exact ⟨_, _, rfl⟩
/-- What lies below a package, and its first part. -/
def below (s p : Str) : Str := if p = emptyS then s else ⟨s.l.drop (p.l.length + 1)⟩
def firstB (s p : Str) : Str := ((splitAt (below s p) dot)[0]?).getD emptyS
theorem below_len (s p : Str) : (below s p).l.length ≤ s.l.length := by
  unfold below
  split
  · exact Nat.le_refl _
  · rw [List.length_drop]; omega
theorem firstB_get (s p : Str) : (splitAt (below s p) dot)[0]? = some (firstB s p) ∧ (firstB s p).l.length ≤ s.l.length + 1 := by
  obtain ⟨x, hx, hm⟩ := get_some (split_ne (below s p) dot)
  have h1 : firstB s p = x := by unfold firstB; rw [hx]; rfl
  have h2 := split_part hm
  have h3 := below_len s p
  rw [h1]
  exact ⟨hx, by omega⟩
theorem below_eq {s p : Str} (h : p = emptyS ∨ p.l.length + 1 ≤ s.l.length) (hs : s.l.length ≤ 1048576) :
    (if (decide (p ≠ (⟨[]⟩ : Str))) = true then ((i64 ((p.l.length : Int) + (1 : Int))).bind fun v51 => (cutLO s v51).bind fun v52 => some v52) else (some s)) = some (below s p) := by
  unfold below emptyS
  by_cases he : p = ⟨[]⟩
  · rw [if_neg (by simp [he]), if_pos he]
  · have h2 : p.l.length + 1 ≤ s.l.length := h.resolve_left he
    rw [if_pos (by simp [he]), if_neg he, i64_succ (by omega), Option.bind_some, cutLO_nat h2]
    rfl
theorem under_room {s p : Str} (hu : under s p = true) (hne : s ≠ p) : p = emptyS ∨ p.l.length + 1 ≤ s.l.length := by
  unfold under at hu
  rw [Bool.or_eq_true, Bool.or_eq_true, Bool.and_eq_true] at hu
  rcases hu with (h | h) | h
  · exact .inl (of_decide_eq_true h)
  · exact absurd (of_decide_eq_true h) hne
  · have := of_decide_eq_true h.1
    exact .inr (by omega)
theorem firstBelow_eq {s p : Str} (h : p = emptyS ∨ p.l.length + 1 ≤ s.l.length) (hs : s.l.length ≤ 1048576) : m_spec_firstBelow s p = some (firstB s p) := by
  unfold m_spec_firstBelow
  have hl := below_len s p
  rw [below_eq h hs, Option.bind_some, show m_spec_splitAt (below s p) (UInt8.ofNat 46) = some (splitAt (below s p) dot) from if_pos (by unfold mid; omega), Option.bind_some]
  rw [show atI (splitAt (below s p) dot) (0 : Int) = some (firstB s p) from (atI_nat _ 0).trans (firstB_get s p).1]
  rfl
def star : Str := ⟨[42]⟩
def items (r : Int) (p : Str) (f : File) : List Str :=
  if cmpI .neq f.root r = true then [] else if f.pkg = p then [if f.init = true then star else f.name] else if (validName f.pkg && under f.pkg p) = true then [⟨(firstB f.pkg p).l ++ [47]⟩] else []
theorem items_len (r : Int) (p : Str) (f : File) : (items r p f).length ≤ 1 := by
  unfold items
  split
  · simp
  · split
    · simp
    · split <;> simp
theorem rows_len (r : Int) (p : Str) (l : List File) : (l.flatMap (items r p)).length ≤ l.length := by
  induction l with
  | nil => exact Nat.le_refl _
  | cons f l ih => have := items_len r p f; rw [List.flatMap_cons, List.length_append, List.length_cons]; omega
theorem rows_next {r : Int} {p : Str} {l : List File} {k : Nat} {f : File} (hf : l[k]? = some f) : (l.take (k + 1)).flatMap (items r p) = (l.take k).flatMap (items r p) ++ items r p f := by
  rw [List.take_add_one, hf, List.flatMap_append]
  simp
theorem listDir_eq {t : Tree} (ht : smTree t) (hv : validTree t = true) {r : Int} {p : Str} (hp : validPackage p = true) : m_impl_listDir t r p = some (ordered (t.files.flatMap (items r p))) := by
  unfold m_impl_listDir
  have hlen := validTree_len hv
  have hpl := validPackage_len hp
  have hrl := rows_len r p t.files
  have hl : loopM (fun s5 => m_impl_listDir_s0 t r p s5) ([], (0 : Int)) = some (t.files.flatMap (items r p)) := by
    refine loop_upto (b := t.files.flatMap (items r p)) t.files.length (fun k => ((t.files.take k).flatMap (items r p), (k : Int))) (fun k hk => ?_) (by unfold m_impl_listDir_s0; simp only; rw [lss_nat, if_neg (by simp), List.take_length]) (by omega) rfl
    obtain ⟨f, hf, hm⟩ := get_some hk
    have h1 := rows_len r p (t.files.take k)
    rw [List.length_take] at h1
    have hsm := ht.2 f hm
    rw [rows_next hf]
    unfold m_impl_listDir_s0
    simp only
    rw [lss_nat, if_pos (decide_eq_true hk), atI_nat, hf, Option.bind_some, i64_succ (k := k) (by omega)]
    generalize (t.files.take k).flatMap (items r p) = out at h1 ⊢
    have happ : ∀ x : Str, appO 16 out [x] = some (out ++ [x]) := fun x => appO_of (by simp; omega) (by simp; omega)
    have nf : ¬ (false = true) := by decide
    have pt : (true = true) := rfl
    unfold items
    cases cmpI .neq f.root r with
    | true => rw [if_pos pt, if_pos pt, List.append_nil]; rfl
    | false =>
      rw [if_neg nf, if_neg nf]
      by_cases hpk : f.pkg = p
      · rw [if_pos (decide_eq_true hpk), if_pos hpk, happ, happ]
        cases f.init <;> rfl
      · rw [if_neg (by simp [hpk]), if_neg hpk, IsUnder_eq hsm.shop (by omega), Option.bind_some, hp, Bool.and_true]
        cases hu : validName f.pkg && under f.pkg p with
        | false => rw [if_neg nf, if_neg nf, List.append_nil]; rfl
        | true =>
          rw [Bool.and_eq_true] at hu
          have hnl := validName_len hu.1
          have hbl := below_len f.pkg p
          obtain ⟨a, b, hc⟩ := Cut_eq (s := below f.pkg p) (by omega)
          have hfl := (firstB_get f.pkg p).2
          rw [if_pos pt, if_pos pt, below_eq (under_room hu.2 hpk) (by omega), Option.bind_some, hc, Option.bind_some]
          show Option.bind (Option.bind (catO (firstB f.pkg p) ⟨[47]⟩) _) _ = _
          rw [catO_of (by show (firstB f.pkg p).l.length + 1 ≤ _; omega), Option.bind_some, happ]
          rfl
  rw [hl, Option.bind_some, sorted_eq (by omega), Option.bind_some]
theorem validPackage_name {s : Str} (h : validPackage s = true) : validName s = decide (s ≠ (⟨[]⟩ : Str)) := by
  unfold validPackage at h
  by_cases he : s = emptyS
  · rw [he, validName_empty]; rfl
  · have : validName s = true := by simpa [he] using h
    rw [this]; exact (decide_eq_true he).symm
theorem validFile_name {f : File} (h : validFile f = true) (hi : f.init = false) : f.name ≠ ⟨[]⟩ := by
  unfold validFile at h
  split at h
  · cases h
  · rw [hi, if_neg (by decide), Bool.and_eq_true] at h
    have := (validPart_len h.1).1
    intro e
    rw [e] at this
    simp at this
theorem listing_eq {t : Tree} (ht : smTree t) (hv : validTree t = true) {r : Int} {p : Str} (hp : validPackage p = true) : m_spec_listing t r p = some (ordered (t.files.flatMap (items r p))) := by
  unfold m_spec_listing
  have hlen := validTree_len hv
  have hpl := validPackage_len hp
  have hl : loopM (fun s5 => m_spec_listing_s0 t r p s5) ([], (0 : Int)) = some ((t.files.flatMap (items r p)).foldl insertT []) := by
    refine loop_upto (b := (t.files.flatMap (items r p)).foldl insertT []) t.files.length (fun k => (((t.files.take k).flatMap (items r p)).foldl insertT [], (k : Int))) (fun k hk => ?_) (by unfold m_spec_listing_s0; simp only; rw [lss_nat, if_neg (by simp), List.take_length]) (by omega) rfl
    obtain ⟨f, hf, hm⟩ := get_some hk
    have h1 := rows_len r p (t.files.take k)
    have h2 := insertAll_len ((t.files.take k).flatMap (items r p)) []
    rw [List.length_take] at h1
    rw [List.length_nil] at h2
    have hsm := ht.2 f hm
    have hvf := validTree_file hv hm
    have hvp := validFile_pkg hvf
    rw [rows_next hf, List.foldl_append]
    unfold m_spec_listing_s0
    simp only
    rw [lss_nat, if_pos (decide_eq_true hk), atI_nat, hf, Option.bind_some, i64_succ (k := k) (by omega)]
    generalize ((t.files.take k).flatMap (items r p)).foldl insertT [] = out at h2 ⊢
    have hins : ∀ x : Str, m_spec_insertText out x = some (insertT out x) := fun x => if_pos (by omega)
    have nf : ¬ (false = true) := by decide
    have pt : (true = true) := rfl
    unfold items
    cases cmpI .neq f.root r with
    | true => rw [if_pos pt, if_pos pt]; rfl
    | false =>
      rw [if_neg nf, if_neg nf]
      by_cases hpk : f.pkg = p
      · rw [decide_eq_true hpk, if_pos hpk]
        cases hi : f.init with
        | true => rw [show (true && true) = true from rfl, if_pos pt, if_pos pt, Option.bind_some, if_pos (show decide ((⟨[42]⟩ : Str) ≠ ⟨[]⟩) = true from rfl), hins]; rfl
        | false =>
          rw [show (true && false) = false from rfl, if_neg nf, if_neg nf, if_pos pt, Option.bind_some, if_pos (decide_eq_true (validFile_name hvf hi)), hins]
          rfl
      · rw [decide_eq_false hpk, if_neg hpk, show (false && f.init) = false from rfl, if_neg nf, if_neg nf, validPackage_name hvp, show m_spec_under f.pkg p = some (under f.pkg p) from if_pos (by omega)]
        cases he : decide (f.pkg ≠ (⟨[]⟩ : Str)) with
        | false => rfl
        | true =>
          rw [show ((true : Bool) == true) = true from rfl, gO_true, Option.bind_some, Bool.true_and]
          cases hu : under f.pkg p with
          | false => rfl
          | true =>
            have hnl := validPackage_len hvp
            have hfl := (firstB_get f.pkg p).2
            rw [if_pos pt, if_pos pt, firstBelow_eq (under_room hu hpk) (by omega), Option.bind_some, catO_of (by show (firstB f.pkg p).l.length + 1 ≤ _; omega), Option.bind_some, Option.bind_some, if_pos (by simp), hins]
            rfl
  rw [hl]
  show some _ = _
  congr 1
  refine asc_ext (insertAll_asc List.Pairwise.nil) (ordered_spec _).1 fun x => ?_
  rw [insertAll_iff, (ordered_spec _).2]
  simp

/-! ### Stale directories -/

theorem sameTexts_eq {x y : List Str} (h : x.length ≤ 288230376151711744) : m_spec_sameTexts x y = some (decide (x = y)) := by
  unfold m_spec_sameTexts
  refine eqS_list (fun k hk hk2 => ?_) ?_ (by omega)
  · unfold m_spec_sameTexts_s0
    simp only [lss_at hk, if_true, atI_at hk, atI_at hk2, Option.bind_some, i64_succ (show k < 4611686018427387904 by omega)]
    by_cases e : x[k] = y[k] <;> simp [e]
  · unfold m_spec_sameTexts_s0
    rw [lss_end]; rfl
def stamp (d : Disk) (x : Dir) : Int := (m_spec_stampOf d x.root x.pkg).getD 0
theorem stamp_eq {d : Disk} (h : d.dirs.length ≤ 1048576) (x : Dir) : m_impl_stampOf d x.root x.pkg = some (stamp d x) ∧ m_spec_stampOf d x.root x.pkg = some (stamp d x) := by
  obtain ⟨n, h1, h2⟩ := stampOf_eq (d := d) (r := x.root) (p := x.pkg) h
  have : stamp d x = n := by unfold stamp; rw [h2]; rfl
  rw [this]
  exact ⟨h1, h2⟩
def staleAt (f : Finder) (d : Disk) (k : Nat) : Bool := match f.dirs[k]? with
  | some x => cmpI .eql x.stamp (stamp d x) && !decide (x.names = ordered (d.tree.files.flatMap (items x.root x.pkg)))
  | none => false
def stales (f : Finder) (d : Disk) (k : Nat) : List Int := ((List.range k).filter (staleAt f d)).map (fun i : Nat => (i : Int))
theorem stales_len (f : Finder) (d : Disk) (k : Nat) : (stales f d k).length ≤ k := by
  have := List.length_filter_le (staleAt f d) (List.range k)
  unfold stales
  rw [List.length_map]
  rw [List.length_range] at this
  exact this
theorem stales_next (f : Finder) (d : Disk) (k : Nat) : stales f d (k + 1) = stales f d k ++ (if staleAt f d k = true then [(k : Int)] else []) := by
  unfold stales
  rw [List.range_succ, List.filter_append, List.map_append]
  cases h : staleAt f d k <;> simp [h]
def staleDirs (f : Finder) (d : Disk) : List Int := if (finderFit f && diskFit d) = true then stales f d f.dirs.length else []
theorem staleDirs_len (f : Finder) (d : Disk) : (staleDirs f d).length ≤ f.dirs.length := by
  unfold staleDirs
  split
  · exact stales_len ..
  · exact Nat.zero_le _
theorem dirsFit_pkg {S n : Int} {l : List Dir} (h : dirsFit S n l = true) {x : Dir} (hx : x ∈ l) : validPackage x.pkg = true := by
  unfold dirsFit at h
  rw [Bool.and_eq_true, List.all_eq_true] at h
  obtain ⟨k, hk⟩ := List.getElem?_of_mem hx
  have := h.1 k (List.mem_range.2 (lt_of_get hk))
  unfold dirFit at this
  rw [hk] at this
  simp only at this
  cases hv : validPackage x.pkg with
  | true => rfl
  | false => rw [hv] at this; simp at this
theorem StaleDirs_eq {f : Finder} {d : Disk} (hf : smDirs f.dirs) (ht : smTree d.tree) (hd : smDirs d.dirs) : m_impl_StaleDirs f d = some (staleDirs f d) := by
  unfold m_impl_StaleDirs staleDirs
  rw [ValidFinder_eq hf, Option.bind_some, ValidDisk_eq ht hd, gO_some, Option.bind_some]
  cases h1 : finderFit f with
  | false => rfl
  | true =>
    cases h2 : diskFit d with
    | false => rfl
    | true =>
      have hlen := hf.1
      have hv : validTree d.tree = true := by unfold diskFit at h2; rw [Bool.and_eq_true, Bool.and_eq_true] at h2; exact h2.1.1
      have hfit : dirsFit 200 12 f.dirs = true := by unfold finderFit at h1; rw [Bool.and_eq_true, Bool.and_eq_true] at h1; exact h1.1.1
      have hl : loopM (fun s => m_impl_StaleDirs_s0 f d s) ([], (0 : Int)) = some (stales f d f.dirs.length) := by
        refine loop_upto (b := stales f d f.dirs.length) f.dirs.length (fun k => (stales f d k, (k : Int))) (fun k hk => ?_) (by unfold m_impl_StaleDirs_s0; simp only; rw [lss_nat, if_neg (by simp)]) (by omega) rfl
        obtain ⟨x, hx, hm⟩ := get_some hk
        have hsl := stales_len f d k
        have hnl := (hf.2 x hm).2
        have hsa : staleAt f d k = (cmpI .eql x.stamp (stamp d x) && !decide (x.names = ordered (d.tree.files.flatMap (items x.root x.pkg)))) := by unfold staleAt; rw [hx]
        rw [stales_next, hsa]
        unfold m_impl_StaleDirs_s0
        simp only
        rw [lss_nat, if_pos (decide_eq_true hk), atI_nat, hx, Option.bind_some, i64_succ (k := k) (by omega), (stamp_eq hd.1 x).1, Option.bind_some]
        generalize stales f d k = out at hsl ⊢
        cases cmpI .eql x.stamp (stamp d x) with
        | false => show some _ = some _; rw [show (if (false && !decide (x.names = ordered (d.tree.files.flatMap (items x.root x.pkg)))) = true then [(k : Int)] else []) = [] from rfl, List.append_nil]
        | true =>
          rw [show ((true : Bool) == true) = true from rfl, gO_true, listDir_eq ht hv (dirsFit_pkg hfit hm), Option.bind_some, gO_true, EqualS_eq (by omega), Option.bind_some]
          cases decide (x.names = ordered (d.tree.files.flatMap (items x.root x.pkg))) with
          | true => show some _ = some _; rw [show (if (true && !true) = true then [(k : Int)] else []) = [] from rfl, List.append_nil]
          | false =>
            rw [appO_of (by simp; omega) (by simp; omega)]
            rfl
      rw [show (!true || !if ((!true) == false) = true then true else default) = false from rfl, if_neg (by decide), hl]
      rfl
theorem spec_StaleDirs_eq {f : Finder} {d : Disk} (hf : smDirs f.dirs) (ht : smTree d.tree) (hd : smDirs d.dirs) : m_spec_StaleDirs f d = some (staleDirs f d) := by
  unfold m_spec_StaleDirs staleDirs
  rw [validFinder_eq hf, Option.bind_some, validDisk_eq ht hd, gO_some, Option.bind_some]
  cases h1 : finderFit f with
  | false => rfl
  | true =>
    cases h2 : diskFit d with
    | false => rfl
    | true =>
      have hlen := hf.1
      have hv : validTree d.tree = true := by unfold diskFit at h2; rw [Bool.and_eq_true, Bool.and_eq_true] at h2; exact h2.1.1
      have hfit : dirsFit 200 12 f.dirs = true := by unfold finderFit at h1; rw [Bool.and_eq_true, Bool.and_eq_true] at h1; exact h1.1.1
      have hl : loopM (fun s => m_spec_StaleDirs_s0 f d s) ([], (0 : Int)) = some (stales f d f.dirs.length) := by
        refine loop_upto (b := stales f d f.dirs.length) f.dirs.length (fun k => (stales f d k, (k : Int))) (fun k hk => ?_) (by unfold m_spec_StaleDirs_s0; simp only; rw [lss_nat, if_neg (by simp)]) (by omega) rfl
        obtain ⟨x, hx, hm⟩ := get_some hk
        have hsl := stales_len f d k
        have hnl := (hf.2 x hm).2
        have hsa : staleAt f d k = (cmpI .eql x.stamp (stamp d x) && !decide (x.names = ordered (d.tree.files.flatMap (items x.root x.pkg)))) := by unfold staleAt; rw [hx]
        rw [stales_next, hsa]
        unfold m_spec_StaleDirs_s0
        simp only
        rw [lss_nat, if_pos (decide_eq_true hk), atI_nat, hx, Option.bind_some, i64_succ (k := k) (by omega), (stamp_eq hd.1 x).2, Option.bind_some]
        generalize stales f d k = out at hsl ⊢
        cases cmpI .eql x.stamp (stamp d x) with
        | false => show some _ = some _; rw [show (if (false && !decide (x.names = ordered (d.tree.files.flatMap (items x.root x.pkg)))) = true then [(k : Int)] else []) = [] from rfl, List.append_nil]
        | true =>
          rw [show ((true : Bool) == true) = true from rfl, gO_true, listing_eq ht hv (dirsFit_pkg hfit hm), Option.bind_some, gO_true, sameTexts_eq (by omega), Option.bind_some]
          cases decide (x.names = ordered (d.tree.files.flatMap (items x.root x.pkg))) with
          | true => show some _ = some _; rw [show (if (true && !true) = true then [(k : Int)] else []) = [] from rfl, List.append_nil]
          | false =>
            rw [appO_of (by simp; omega) (by simp; omega)]
            rfl
      rw [show (!true || !if ((!true) == false) = true then true else default) = false from rfl, if_neg (by decide), hl]
      rfl

/-! ### The law -/

/-- A law that looks at a list that is handed back, and at what was handed in. -/
theorem tail_ints {g : List Int} (hg : g.length ≤ 1125899906842624) {H : Option (List Int)} (hH : H = some g) :
    ((m_laws_markIntS g (1 : Int)).bind fun v103 =>
      (m_laws_heldIntS v103.1 (1 : Int)).bind fun v108 =>
      if (cmpI .lss v108 (0 : Int)) = true then (some false)
      else (if (cmpI .neq v108 v103.2) = true then (some false)
      else (H.bind fun v121 =>
      (m_laws_eqIntS v121 g).bind fun v126 =>
      if (!v126) = true then (some false)
      else ((m_laws_heldIntS v103.1 (1 : Int)).bind fun v133 =>
      if (cmpI .lss v133 (0 : Int)) = true then (some false)
      else (if (cmpI .neq v133 v103.2) = true then (some false)
      else (some true)))))) = some true := by
  obtain ⟨y, k', h1, h2, h3, h4⟩ := markIntS_ok (x := g) (k := 1) hg (by omega) (by omega)
  have h5 : cmpI .lss k' 0 = false := by simp [cmpI]; omega
  simp only [h1, Option.bind_some, h4, h5, neq_self, hH, eqIntS_eq (x := g) (y := g) (by omega), Bool.false_eq_true, if_false, decide_true, Bool.not_true]

theorem law_StaleDirs {f : Finder} {d : Disk} (hf : Okd f) (hd : Okd d) : m_laws_FnExactStaleDirs f d = some true := by
  unfold m_laws_FnExactStaleDirs
  rw [szFinder_eq hf (by omega) (by omega), Option.bind_some]
  cases hs : cmpI .lss (szR (totFinder f) 1048576) 0 with
  | true => rw [if_pos rfl]
  | false =>
    have hs' : ¬ szR (totFinder f) 1048576 < 0 := of_decide_eq_false hs
    obtain ⟨h1, _⟩ := szR_nn (t := totFinder f) (left := 1048576) (by omega)
    have hF : totFinder f ≤ 1048576 := by omega
    rw [if_neg (by decide), szDisk_eq hd (by omega) (by omega), Option.bind_some]
    cases hs2 : cmpI .lss (szR (totDisk d) (szR (totFinder f) 1048576)) 0 with
    | true => rw [if_pos rfl]
    | false =>
      have hs2' : ¬ szR (totDisk d) (szR (totFinder f) 1048576) < 0 := of_decide_eq_false hs2
      obtain ⟨h2, _⟩ := szR_nn (t := totDisk d) (left := szR (totFinder f) 1048576) (by omega)
      have hD : totDisk d ≤ 1048576 := by omega
      have a1 : totFinder f = totDirS f.dirs + (0) := rfl
      have a2 : totDisk d = totTree d.tree + (totDirS d.dirs + (0)) := rfl
      have b1 : smDirs f.dirs := sm_dirs (by omega)
      have b2 : smTree d.tree := sm_tree (by omega)
      have b3 : smDirs d.dirs := sm_dirs (by omega)
      have hl : (staleDirs f d).length ≤ 1048576 := Nat.le_trans (staleDirs_len f d) b1.1
      have e1 := toFinder_eq hF
      have e2 := toDisk_eq hD
      have e3 := spec_StaleDirs_eq b1 b2 b3
      have e4 := StaleDirs_eq b1 b2 b3
      have e5 : m_laws_eqIntS (staleDirs f d) (staleDirs f d) = some true := by rw [eqIntS_eq (by omega)]; simp
      have e6 : m_laws_eqFinder f f = some true := by rw [eqFinder_eq (by omega)]; simp
      have e7 : m_laws_eqDisk d d = some true := by rw [eqDisk_eq (by omega)]; simp
      obtain ⟨y1, k1, m1, c1, d1⟩ := markFinder_ok (x := f) (k := 1) hF (by omega) (by omega)
      obtain ⟨y2, k2, m2, c2, d2⟩ := markDisk_ok (x := d) (k := k1) hD (by omega) (by omega)
      have hk : cmpI .lss k2 0 = false := by simp [cmpI]; omega
      rw [if_neg (by decide), e1, Option.bind_some, e2, Option.bind_some, e3, Option.bind_some, Option.bind_some, Option.bind_some, e4, Option.bind_some, e5, Option.bind_some, if_neg (by decide), Option.bind_some, e6, Option.bind_some, if_neg (by decide), Option.bind_some, e7, Option.bind_some, if_neg (by decide), m1, Option.bind_some]
      simp only
      rw [m2, Option.bind_some]
      simp only
      rw [hk, show ((false == false) : Bool) = true from rfl, gO_true, Option.bind_some, if_neg (by decide)]
      exact tail_ints (by omega) e4

theorem FnExactStaleDirs_true (f : Finder) (d : Disk) : Fn Tryz.prog 7 [dt f, dt d] (dt true) := .okd (x := f) (by simp) fun hf => .okd (x := d) (by simp) fun hd => laws_FnExactStaleDirs_w (law_StaleDirs hf hd)
end Go.Proofs.YtionokffhhiicaaGreatDoor
