/-
  Plain laws: the draws come to something, and that is small.
  Plain laws: parents and last parts.
  Plain laws: the law of KidsOf.
-/
import Derived.Test.YtbnibckkfknpkaaGreatDoorLIM
import Derived.Test.YtbnibckkfknpkaaGreatDoorLPM
import Derived.Test.YtbnibckkfknpkaaGreatDoorLHM
namespace Go.Proofs.YtbnibckkfknpkaaGreatDoor
open Go.RowKit
def Rok (k : Int) (r : Reader) : Prop := r.b.length <= 2000 /\ 0 <= r.p /\ r.p <= k
def Dr {α : Type} (k : Int) (x : Option (Reader × α)) (P : α -> Prop) : Prop := ∃ r v, x = some (r, v) /\ Rok k r /\ P v
theorem Dr.bind {α β : Type} {k k' : Int} {x : Option (Reader × α)} {P : α -> Prop} {f : Reader × α -> Option (Reader × β)} {Q : β -> Prop} (h : Dr k x P) (hf : ∀ r v, Rok k r -> P v -> Dr k' (f (r, v)) Q) : Dr k' (x.bind f) Q := by
 obtain ⟨r, v, h1, h2, h3⟩ := h
 rw [h1]
 exact hf r v h2 h3
theorem Dr.pure {α : Type} {k : Int} {r : Reader} {v : α} {P : α -> Prop} (h : Rok k r) (hp : P v) : Dr k (some (r, v)) P := ⟨r, v, rfl, h, hp⟩
theorem Rok.le {k k' : Int} {r : Reader} (h : Rok k r) (hk : k <= k') : Rok k' r := ⟨h.1, h.2.1, Int.le_trans h.2.2 hk⟩
theorem Dr.mono {α : Type} {k k' : Int} {x : Option (Reader × α)} {P Q : α -> Prop} (h : Dr k x P) (hk : k <= k') (hp : ∀ v, P v -> Q v) : Dr k' x Q := by
 obtain ⟨r, v, h1, h2, h3⟩ := h
 exact ⟨r, v, h1, h2.le hk, hp v h3⟩
theorem atI_ok {α : Type} {l : List α} {i : Int} (h0 : 0 <= i) (h : i < l.length) : ∃ x, atI l i = some x /\ x ∈ l := by
 obtain ⟨n, rfl⟩ := Int.eq_ofNat_of_zero_le h0
 obtain ⟨x, hx, hm⟩ := get_some (l := l) (k := n) (by omega)
 exact ⟨x, by rw [atI_nat, hx], hm⟩
theorem xorI_nn {m n : Int} (hm : 0 <= m) (hm2 : m < 4611686018427387904) (hn : 0 <= n) (hn2 : n < 4611686018427387904) : 0 <= xorI m n := by
 obtain ⟨a, rfl⟩ := Int.eq_ofNat_of_zero_le hm
 obtain ⟨b, rfl⟩ := Int.eq_ofNat_of_zero_le hn
 have h1 : ∀ c : Nat, c < 4611686018427387904 -> (BitVec.ofInt 64 (c : Int)).toNat = c := fun c hc => by
  rw [BitVec.toNat_ofInt]
  omega
 have h2 : (BitVec.ofInt 64 (a : Int) ^^^ BitVec.ofInt 64 (b : Int)).toNat = a ^^^ b := by
  rw [BitVec.toNat_xor, h1 a (by omega), h1 b (by omega)]
 have h3 : a ^^^ b < 2 ^ 62 := Nat.xor_lt_two_pow (by omega) (by omega)
 have h4 : (2 : Nat) ^ 62 = 4611686018427387904 := by decide
 unfold xorI
 show 0 <= IntKind.i64.wrap ((BitVec.ofInt 64 (a : Int) ^^^ BitVec.ofInt 64 (b : Int)).toNat : Int)
 rw [h2, wrap_in _ (by omega)]
 omega
theorem pick_ok {k : Int} {r : Reader} (n : Int) (h : Rok k r) (hk : k <= 1000000) : Dr (k + 1) (m_spec_reader_pick r n) (fun v => 0 <= v /\ (1 <= n -> v < n)) := by
 obtain ⟨h1, h2, h3⟩ := h
 unfold m_spec_reader_pick
 rw [i64_of (by omega) (by omega), Option.bind_some]
 have hr : Rok (k + 1) { r with p := r.p + 1 } := ⟨h1, by show 0 <= r.p + 1; omega, by show r.p + 1 <= k + 1; omega⟩
 cases hc : cmpI .lss n 1 || cmpI .eql (r.b.length : Int) 0 with
 |
  true =>
  rw [if_pos rfl]
  refine .pure hr ⟨Int.le_refl _, fun h => by omega⟩
 |
  false =>
  rw [Bool.or_eq_false_iff] at hc
  have hn : ¬ n < 1 := of_decide_eq_false hc.1
  have hl : ¬ (r.b.length : Int) = 0 := by simpa [cmpI] using hc.2
  have hres : ∀ x : Int, 0 <= x -> Dr (k + 1) ((modO x n).bind fun v => some ({ r with p := r.p + 1 }, v)) (fun v => 0 <= v /\ (1 <= n -> v < n)) := fun x hx => by
   rw [modO_of (by omega), Option.bind_some]
   exact .pure hr ⟨Int.tmod_nonneg _ hx, fun _ => Int.tmod_lt_of_pos _ (by omega)⟩
  rw [if_neg (by decide), show r.p + 1 - 1 = r.p by omega, i64_of (by omega) (by omega), Option.bind_some]
  cases hlt : cmpI .lss r.p (r.b.length : Int) with
  |
   true =>
   obtain ⟨x, hx, _⟩ := atI_ok h2 (of_decide_eq_true hlt)
   rw [if_pos rfl, hx, Option.bind_some]
   exact hres _ (by omega)
  |
   false =>
   have hm : ∀ x : Int, 0 <= x -> ∃ y, modO x (r.b.length : Int) = some y /\ 0 <= y /\ y < (r.b.length : Int) := fun x hx => ⟨_, modO_of (by omega), Int.tmod_nonneg _ hx, Int.tmod_lt_of_pos _ (by omega)⟩
   obtain ⟨y1, e1, a1, b1⟩ := hm r.p h2
   obtain ⟨x1, f1, _⟩ := atI_ok a1 b1
   obtain ⟨y2, e2, a2, b2⟩ := hm (r.p * 7 + 3) (by omega)
   obtain ⟨x2, f2, _⟩ := atI_ok a2 b2
   have u1 := x1.toNat_lt
   have u2 := x2.toNat_lt
   have hd1 : 0 <= r.p.tdiv (r.b.length : Int) := Int.tdiv_nonneg h2 (by omega)
   have hd2 : r.p.tdiv (r.b.length : Int) <= r.p := Int.tdiv_le_self _ h2
   rw [if_neg (by decide), e1, Option.bind_some, f1, Option.bind_some, i64_of (by omega) (by omega), Option.bind_some, i64_of (by omega) (by omega), Option.bind_some, i64_of (by omega) (by omega), Option.bind_some, e2, Option.bind_some, f2, Option.bind_some, i64_of (by omega) (by omega), Option.bind_some, i64_of (by omega) (by omega), Option.bind_some, i64_of (by omega) (by omega), Option.bind_some, i64_of (by omega) (by omega), Option.bind_some, divO_of (by omega) (by omega) (by omega), Option.bind_some, i64_of (by omega) (by omega), Option.bind_some, i64_of (by omega) (by omega), Option.bind_some]
   generalize hz : (x1.toNat : Int) * 131 + (x2.toNat : Int) * 1117 + r.p * 29 + r.p.tdiv (r.b.length : Int) * 53 = z
   have hz0 : 0 <= z /\ z < 4611686018427387904 := by omega
   have hz1 : 0 <= z.tdiv 64 := Int.tdiv_nonneg hz0.1 (by omega)
   have hz2 : z.tdiv 64 <= z := Int.tdiv_le_self _ hz0.1
   rw [divO_of (by decide) (by omega) (by omega), Option.bind_some]
   exact hres _ (xorI_nn hz0.1 hz0.2 hz1 (by omega))
theorem Dr.ite {α : Type} {k : Int} {c : Prop} [Decidable c] {x y : Option (Reader × α)} {P : α -> Prop} (h1 : c -> Dr k x P) (h2 : ¬ c -> Dr k y P) : Dr k (if c then x else y) P := by
 split
 ·
  exact h1 (by assumption)
 ·
  exact h2 (by assumption)
theorem Dr.any {α γ : Type} {k : Int} {x : Option γ} {f : γ -> Option (Reader × α)} {P : α -> Prop} (hx : ∃ o, x = some o) (hf : ∀ o, Dr k (f o) P) : Dr k (x.bind f) P := by
 obtain ⟨o, rfl⟩ := hx
 exact hf o
theorem Dr.some {α γ : Type} {k : Int} {x : Option γ} {o : γ} {f : γ -> Option (Reader × α)} {P : α -> Prop} (hx : x = some o) (hf : Dr k (f o) P) : Dr k (x.bind f) P := by
 rw [hx]
 exact hf
theorem one_ok {k : Int} {r : Reader} {l : List Int} (P : Int -> Prop) (h : Rok k r) (hk : k <= 1000000) (h0 : 0 < l.length) (hP : ∀ x ∈ l, P x) : Dr (k + 1) (m_spec_reader_one r l) P := by
 unfold m_spec_reader_one
 refine .bind (pick_ok _ h hk) fun r1 v h1 hv => ?_
 obtain ⟨x, hx, hm⟩ := atI_ok hv.1 (hv.2 (by omega))
 exact .some hx (.pure h1 (hP x hm))
theorem of_ok {k : Int} {r : Reader} {l : List Str} (P : Str -> Prop) (h : Rok k r) (hk : k <= 1000000) (h0 : 0 < l.length) (hP : ∀ x ∈ l, P x) : Dr (k + 1) (m_spec_reader_of r l) P := by
 unfold m_spec_reader_of
 refine .bind (pick_ok _ h hk) fun r1 v h1 hv => ?_
 obtain ⟨x, hx, hm⟩ := atI_ok hv.1 (hv.2 (by omega))
 exact .some hx (.pure h1 (hP x hm))
theorem aPart_ok {k : Int} {r : Reader} (h : Rok k r) (hk : k <= 1000000) : Dr (k + 1) (m_spec_aPart r) (fun s => s.l.length <= 1) := by
 unfold m_spec_aPart
 refine .bind (of_ok (fun s => s.l.length <= 1) h hk (by decide) (by decide)) fun r1 v h1 hv => .pure h1 hv
theorem loop_down {σ : Type} {step : Reader × σ × Int -> Option ((Reader × σ × Int) ⊕ (Reader × σ))} (K : Nat -> Int) (P : Nat -> σ -> Prop) (m : Nat) (hK : ∀ i j, i <= j -> K i <= K j)
  (h : ∀ j r x n, j < m -> Rok (K j) r -> P j x -> 0 < n -> n + (j : Int) <= m -> ∃ r' x', step (r, x, n) = some (.inl (r', x', n - 1)) /\ Rok (K (j + 1)) r' /\ P (j + 1) x')
  (hend : ∀ r x n, n <= 0 -> step (r, x, n) = some (.inr (r, x))) (hm : m <= 1000) {r : Reader} {x : σ} {n : Int} (h0 : Rok (K 0) r) (hx : P 0 x) (hn : n <= m) : Dr (K m) (loopM step (r, x, n)) (fun y => ∃ j, j <= m /\ P j y) := by
 have key : ∀ q j r x n, j + q = m -> Rok (K j) r -> P j x -> n <= (q : Int) -> ∃ r' y, iterM step (q + 1) (r, x, n) = some (r', y) /\ Rok (K m) r' /\ ∃ j', j' <= m /\ P j' y := by
  intro q
  induction q with
  | zero => intro j r x n hj hr hx hn; exact ⟨r, x, iterM_inr (hend r x n (by omega)), hr.le (hK _ _ (by omega)), j, by omega, hx⟩
  |
   succ q ih =>
   intro j r x n hj hr hx hn
   by_cases hn0 : n <= 0
   ·
    exact ⟨r, x, iterM_inr (hend r x n hn0), hr.le (hK _ _ (by omega)), j, by omega, hx⟩
   ·
    obtain ⟨r', x', h1, h2, h3⟩ := h j r x n (by omega) hr hx (by omega) (by omega)
    rw [iterM_inl h1]
    exact ih (j + 1) r' x' (n - 1) (by omega) h2 h3 (by omega)
 obtain ⟨r', y, h1, h2, h3⟩ := key m 0 r x n (by omega) h0 hx hn
 exact ⟨r', y, loopM_of h1 (by omega), h2, h3⟩
theorem aName_ok {k : Int} {r : Reader} (h : Rok k r) (hk : k <= 900000) : Dr (k + 10) (m_spec_aName r) (fun s => s.l.length <= 8) := by
 unfold m_spec_aName
 refine .bind (aPart_ok h (by omega)) fun r1 s h1 hs => ?_
 refine .bind (k := k + 10) (P := fun s => s.l.length <= 8) ?_ fun r3 s3 h3 hs3 => .pure h3 hs3
 refine .bind (one_ok (fun n => n <= 2) h1 (by omega) (by decide) (by decide)) fun r2 n h2 hn => ?_
 refine (loop_down (fun j => k + 2 + j) (fun j (s : Str) => s.l.length <= 1 + 2 * j) 2 (fun i j hij => by omega) (fun j r x n hj hr hx hn hb => ?_) (fun r x n hn => ?_) (by omega) (h2.le (by show k + 1 + 1 <= k + 2 + ((0 : Nat) : Int); omega)) (by show s.l.length <= 1 + 2 * 0; omega) (by exact hn)).mono (by show k + 2 + ((2 : Nat) : Int) <= k + 10; omega) (fun y ⟨j, hj, hy⟩ => by omega)
 ·
  obtain ⟨r', v, e1, e2, e3⟩ := aPart_ok hr (by omega)
  have e3' : v.l.length <= 1 := e3
  refine ⟨r', ⟨(x.l ++ [46]) ++ v.l⟩, ?_, e2.le (by show k + 2 + (j : Int) + 1 <= k + 2 + ((j + 1 : Nat) : Int); omega), ?_⟩
  ·
   unfold m_spec_aName_s0
   dsimp only
   rw [if_pos (by simp [cmpI]; omega), catO_of (by show x.l.length + 1 <= _; omega), Option.bind_some, e1, Option.bind_some, catO_of (by rw [List.length_append]; show x.l.length + 1 + v.l.length <= _; omega), Option.bind_some, i64_of (by omega) (by omega), Option.bind_some]
  ·
   show (x.l ++ [46] ++ v.l).length <= _
   simp only [List.length_append, List.length_singleton]
   omega
 ·
  unfold m_spec_aName_s0
  dsimp only
  rw [if_neg (by simp [cmpI]; omega)]
theorem Dr.step {α β : Type} {k : Int} {x : Option (Reader × α)} {P : α -> Prop} {f : Reader × α -> Option β} {Q : β -> Prop} (hx : Dr k x P) (hf : ∀ r v, Rok k r -> P v -> ∃ y, f (r, v) = Option.some y /\ Q y) : ∃ y, x.bind f = Option.some y /\ Q y := by
 obtain ⟨r, v, h1, h2, h3⟩ := hx
 rw [h1]
 exact hf r v h2 h3
theorem anyName_ok {k : Int} {r : Reader} (h : Rok k r) (hk : k <= 900000) : Dr (k + 12) (m_spec_anyName r) (fun s => s.l.length <= 16) := by
 unfold m_spec_anyName
 refine .bind (aName_ok h hk) fun r1 s h1 hs => .bind (pick_ok 20 h1 (by omega)) fun r2 v h2 _ => ?_
 have hs' : s.l.length <= 8 := hs
 refine .ite (fun _ => .some (catO_of (m := s) (by show s.l.length + 1 <= _; omega)) (.pure (h2.le (by omega)) (by show (s.l ++ [46]).length <= 16; rw [List.length_append]; show s.l.length + 1 <= 16; omega))) fun _ => ?_
 exact .ite (fun _ => .bind (of_ok (fun s => s.l.length <= 16) h2 (by omega) (by decide) (by decide)) fun r3 v h3 hv => .pure (h3.le (by omega)) hv) fun _ => .pure (h2.le (by omega)) (by show s.l.length <= 16; omega)
def smS (s : Stmt) : Prop := s.module.l.length <= 16 /\ s.name.l.length <= 16
theorem someStmt_ok {k : Int} {r : Reader} (h : Rok k r) (hk : k <= 800000) : Dr (k + 30) (m_spec_someStmt r) smS := by
 unfold m_spec_someStmt
 refine .bind (pick_ok 9 h (by omega)) fun r1 v1 h1 _ => ?_
 refine .any (by split <;> exact ⟨_, rfl⟩) fun o7 => ?_
 refine .ite (fun _ => .bind (aName_ok h1 (by omega)) fun r2 s h2 hs => .pure (h2.le (by omega)) ⟨Nat.le_trans hs (by decide), Nat.zero_le _⟩) fun _ => ?_
 refine .ite (fun _ => ?_) fun _ => ?_
 ·
  refine .bind (one_ok (fun _ => True) h1 (by omega) (by decide) (fun _ _ => trivial)) fun r2 n h2 _ => .bind (aName_ok h2 (by omega)) fun r3 s h3 hs => ?_
  refine .bind (k := k + 13) (P := fun s => s.l.length <= 16) ?_ fun r4 m h4 hm => .bind (aPart_ok h4 (by omega)) fun r5 q h5 hq => .pure (h5.le (by omega)) ⟨hm, Nat.le_trans hq (by decide)⟩
  dsimp only
  cases cmpI .gtr n 0 with
  |
   true =>
   refine .bind (pick_ok 2 h3 (by omega)) fun r4 v h4 _ => .ite (fun _ => .pure (h4.le (by omega)) (Nat.zero_le _)) fun _ => .pure (h4.le (by omega)) (Nat.le_trans hs (by decide))
  | false => exact .pure (h3.le (by omega)) (Nat.le_trans hs (by decide))
 refine .ite (fun _ => .bind (aName_ok h1 (by omega)) fun r2 s h2 hs => .pure (h2.le (by omega)) ⟨Nat.le_trans hs (by decide), Nat.zero_le _⟩) fun _ => ?_
 refine .any (by split; exact ⟨_, rfl⟩; split <;> exact ⟨_, rfl⟩) fun o62 => ?_
 refine .ite (fun _ => .bind (of_ok (fun s => s.l.length <= 16) h1 (by omega) (by decide) (by decide)) fun r2 s h2 hs => .bind (pick_ok 100 h2 (by omega)) fun r3 v h3 _ => .pure (h3.le (by omega)) ⟨Nat.zero_le _, hs⟩) fun _ => ?_
 refine .ite (fun _ => .bind (of_ok (fun s => s.l.length <= 16) h1 (by omega) (by decide) (by decide)) fun r2 s h2 hs => .pure (h2.le (by omega)) ⟨Nat.zero_le _, hs⟩) fun _ => ?_
 refine .bind (pick_ok 3 h1 (by omega)) fun r2 v h2 _ => .ite (fun _ => .pure (h2.le (by omega)) ⟨Nat.zero_le _, Nat.zero_le _⟩) fun _ => .bind (pick_ok 100 h2 (by omega)) fun r3 v h3 _ => .pure (h3.le (by omega)) ⟨Nat.zero_le _, (by show 1 <= 16; omega)⟩
def smB (n : Nat) (b : List Stmt) : Prop := b.length <= n /\ ∀ s ∈ b, smS s
theorem smB.app {n : Nat} {b : List Stmt} {s : Stmt} (h : smB n b) (hs : smS s) : smB (n + 1) (b ++ [s]) := ⟨by have := h.1; simp; omega, fun x hx => (List.mem_append.1 hx).elim (h.2 x) fun hx => by rw [List.mem_singleton.1 hx]; exact hs⟩
theorem smB.le {n m : Nat} {b : List Stmt} (h : smB n b) (hm : n <= m) : smB m b := ⟨Nat.le_trans h.1 hm, h.2⟩
theorem someBody_ok {k : Int} {r : Reader} (h : Rok k r) (hk : k <= 700000) : Dr (k + 170) (m_spec_someBody r) (smB 4) := by
 unfold m_spec_someBody
 refine .bind (pick_ok 2 h (by omega)) fun r1 v1 h1 _ => ?_
 refine .bind (k := k + 170) (P := smB 4) ?_ fun r3 s3 h3 hs3 => .pure h3 hs3
 refine .bind (one_ok (fun n => n <= 4) h1 (by omega) (by decide) (by decide)) fun r2 n h2 hn => ?_
 refine (loop_down (fun j => k + 2 + 40 * j) (fun j x => smB j x) 4 (fun i j hij => by omega) (fun j r x n hj hr hx hn hb => ?_) (fun r x n hn => ?_) (by omega) (h2.le (by show k + 1 + 1 <= k + 2 + 40 * ((0 : Nat) : Int); omega)) ⟨Nat.le_refl _, fun s hs => by cases hs⟩ (by exact hn)).mono (by show k + 2 + 40 * ((4 : Nat) : Int) <= k + 170; omega) (fun y ⟨j, hj, hy⟩ => hy.le hj)
 ·
  have key : ∃ y, m_spec_someBody_s0 (r1, v1) (r, x, n) = Option.some y /\ ∃ r' x', y = .inl (r', x', n - 1) /\ Rok (k + 2 + 40 * ((j + 1 : Nat) : Int)) r' /\ smB (j + 1) x' := by
   unfold m_spec_someBody_s0
   rw [if_pos (by simp [cmpI]; omega)]
   refine Dr.step (someStmt_ok hr (by omega)) fun r3 s h3 hs => ?_
   refine Dr.step (k := k + 2 + 40 * j + 31) (P := smS) (.ite (fun _ => .bind (pick_ok 100 h3 (by omega)) fun r4 v h4 _ => .pure (h4.le (by omega)) ⟨Nat.zero_le _, (by show 1 <= 16; omega)⟩) fun _ => .pure (h3.le (by omega)) hs) fun r4 s2 h4 hs2 => ?_
   have hl := hx.1
   refine ⟨_, by dsimp only; rw [appO_of (by simp; omega) (by simp; omega), Option.bind_some, i64_of (by omega) (by omega), Option.bind_some], r4, _, rfl, h4.le (by omega), hx.app hs2⟩
  obtain ⟨y, e, r', x', rfl, e2, e3⟩ := key
  exact ⟨r', x', e, e2, e3⟩
 ·
  unfold m_spec_someBody_s0
  dsimp only
  rw [if_neg (by simp [cmpI]; omega)]
def smF (n : Nat) (f : File) : Prop := f.pkg.l.length <= 16 /\ f.name.l.length <= 16 /\ smB n f.body
theorem someFile_ok {k : Int} {r : Reader} (h : Rok k r) (hk : k <= 600000) : Dr (k + 200) (m_spec_someFile r) (smF 4) := by
 unfold m_spec_someFile
 refine .bind (one_ok (fun _ => True) h (by omega) (by decide) (fun _ _ => trivial)) fun r1 v1 h1 _ => .bind (pick_ok 100 h1 (by omega)) fun r2 v2 h2 _ => .bind (someBody_ok h2 (by omega)) fun r3 b h3 hb => ?_
 refine .bind (k := k + 200) (P := smF 4) ?_ fun r4 f h4 hf => .pure h4 hf
 refine .bind (pick_ok 6 h3 (by omega)) fun r4 v4 h4 _ => ?_
 refine .any (by split <;> exact ⟨_, rfl⟩) fun o30 => ?_
 refine .ite (fun _ => .bind (aPart_ok h4 (by omega)) fun r5 s h5 hs => .pure (h5.le (by omega)) ⟨Nat.zero_le _, Nat.le_trans hs (by decide), hb⟩) fun _ => ?_
 refine .any (by split <;> exact ⟨_, rfl⟩) fun o51 => ?_
 refine .ite (fun _ => .bind (aPart_ok h4 (by omega)) fun r5 s h5 hs => .bind (aPart_ok h5 (by omega)) fun r6 s2 h6 hs2 => .pure (h6.le (by omega)) ⟨Nat.le_trans hs (by decide), Nat.le_trans hs2 (by decide), hb⟩) fun _ => ?_
 refine .ite (fun _ => .bind (aPart_ok h4 (by omega)) fun r5 s h5 hs => .pure (h5.le (by omega)) ⟨Nat.le_trans hs (by decide), Nat.zero_le _, hb⟩) fun _ => ?_
 refine .bind (aPart_ok h4 (by omega)) fun r5 s h5 hs => ?_
 have hs' : s.l.length <= 1 := hs
 refine .some (catO_of (m := s) (by show s.l.length + 1 <= _; omega)) (.bind (aPart_ok h5 (by omega)) fun r6 s2 h6 hs2 => ?_)
 have hs2' : s2.l.length <= 1 := hs2
 have hlen : (s.l ++ [46] ++ s2.l).length <= 16 := by simp only [List.length_append, List.length_singleton]; omega
 refine .some (catO_of (by simp only [List.length_append]; show s.l.length + 1 + s2.l.length <= _; omega)) (.bind (pick_ok 2 h6 (by omega)) fun r7 v7 h7 _ => ?_)
 exact .ite (fun _ => .pure (h7.le (by omega)) ⟨hlen, Nat.zero_le _, hb⟩) fun _ => .bind (aPart_ok h7 (by omega)) fun r8 s3 h8 hs3 => .pure (h8.le (by omega)) ⟨hlen, Nat.le_trans hs3 (by decide), hb⟩
def smT (n m : Nat) (t : Tree) : Prop := t.files.length <= n /\ ∀ f ∈ t.files, smF m f
theorem smF.le {n m : Nat} {f : File} (h : smF n f) (hm : n <= m) : smF m f := ⟨h.1, h.2.1, h.2.2.le hm⟩
theorem smT.le {n m n' m' : Nat} {t : Tree} (h : smT n m t) (hn : n <= n') (hm : m <= m') : smT n' m' t := ⟨Nat.le_trans h.1 hn, fun f hf => (h.2 f hf).le hm⟩
theorem smT.app {n m : Nat} {t : Tree} {f : File} (h : smT n m t) (hf : smF m f) : smT (n + 1) m ⟨t.files ++ [f]⟩ := ⟨by have := h.1; simp; omega, fun x hx => (List.mem_append.1 hx).elim (h.2 x) fun hx => by rw [List.mem_singleton.1 hx]; exact hf⟩
theorem smT.set {n m i : Nat} {t : Tree} {f : File} (h : smT n m t) (hf : smF m f) : smT n m ⟨t.files.set i f⟩ := ⟨by have := h.1; simp; omega, fun x hx => (List.mem_or_eq_of_mem_set hx).elim (h.2 x) fun hx => by rw [hx]; exact hf⟩
theorem someTree_ok {k : Int} {r : Reader} (h : Rok k r) (hk : k <= 500000) : Dr (k + 2100) (m_spec_someTree r) (smT 10 4) := by
 unfold m_spec_someTree
 refine .bind (k := k + 2100) (P := smT 10 4) ?_ fun r3 s3 h3 hs3 => .pure h3 hs3
 refine .bind (one_ok (fun n => n <= 10) h (by omega) (by decide) (by decide)) fun r2 n h2 hn => ?_
 refine (loop_down (fun j => k + 1 + 200 * j) (fun j x => smT j 4 x) 10 (fun i j hij => by omega) (fun j r x n hj hr hx hn hb => ?_) (fun r x n hn => ?_) (by omega) (h2.le (by show k + 1 <= k + 1 + 200 * ((0 : Nat) : Int); omega)) ⟨Nat.le_refl _, fun s hs => by cases hs⟩ (by exact hn)).mono (by show k + 1 + 200 * ((10 : Nat) : Int) <= k + 2100; omega) (fun y ⟨j, hj, hy⟩ => hy.le hj (Nat.le_refl _))
 ·
  have key : ∃ y, m_spec_someTree_s0 (r, x, n) = Option.some y /\ ∃ r' x', y = .inl (r', x', n - 1) /\ Rok (k + 1 + 200 * ((j + 1 : Nat) : Int)) r' /\ smT (j + 1) 4 x' := by
   unfold m_spec_someTree_s0
   rw [if_pos (by simp [cmpI]; omega)]
   have hl := hx.1
   refine Dr.step (k := k + 1 + 200 * j + 200) (P := smT (j + 1) 4) ?_ fun r4 t h4 ht => ?_
   ·
    refine .bind (someFile_ok hr (by omega)) fun r3 f h3 hf => .some (if_pos trivial) (.ite (fun _ => ?_) fun _ => .pure h3 (hx.le (by omega) (Nat.le_refl _)))
    exact .some (appO_of (by simp; omega) (by simp; omega)) (.pure h3 (hx.app hf))
   ·
    exact ⟨_, by dsimp only; rw [i64_of (by omega) (by omega), Option.bind_some], r4, t, rfl, h4.le (by omega), ht⟩
  obtain ⟨y, e, r', x', rfl, e2, e3⟩ := key
  exact ⟨r', x', e, e2, e3⟩
 ·
  unfold m_spec_someTree_s0
  dsimp only
  rw [if_neg (by simp [cmpI]; omega)]
theorem anyTree_ok {k : Int} {r : Reader} (h : Rok k r) (hk : k <= 400000) : Dr (k + 2200) (m_spec_anyTree r) (smT 11 5) := by
 unfold m_spec_anyTree
 refine .bind (someTree_ok h (by omega)) fun r1 t h1 ht => ?_
 have ht5 : smT 11 5 t := ht.le (by omega) (by omega)
 refine .bind (k := k + 2200) (P := smT 11 5) ?_ fun r4 f h4 hf => .pure h4 hf
 refine .ite (fun hpos => ?_) fun _ => .pure (h1.le (by omega)) ht5
 have hpos' : 0 < (t.files.length : Int) := of_decide_eq_true hpos
 obtain ⟨f, hf, hm⟩ := atI_ok (l := t.files) (i := 0) (Int.le_refl _) hpos'
 have hsf := ht.2 f hm
 have hl := ht.1
 refine .bind (pick_ok 24 h1 (by omega)) fun r2 v2 h2 _ => ?_
 refine .ite (fun _ => .some hf (.some (appO_of (by simp; omega) (by simp; omega)) (.pure (h2.le (by omega)) ((ht.app hsf).le (by omega) (by omega))))) fun _ => ?_
 refine .ite (fun _ => .bind (one_ok (fun _ => True) h2 (by omega) (by decide) (fun _ _ => trivial)) fun r3 v3 h3 _ => .some hf (.pure (h3.le (by omega)) (ht5.set ⟨hsf.1, hsf.2.1, hsf.2.2.le (by omega)⟩))) fun _ => ?_
 refine .ite (fun _ => .bind (one_ok (fun _ => True) h2 (by omega) (by decide) (fun _ _ => trivial)) fun r3 v3 h3 _ => .some hf (.pure (h3.le (by omega)) (ht5.set ⟨hsf.1, hsf.2.1, hsf.2.2.le (by omega)⟩))) fun _ => ?_
 refine .ite (fun _ => ?_) fun _ => .pure (h2.le (by omega)) ht5
 have hbl := hsf.2.2.1
 exact .some hf (.some (appO_of (by simp; omega) (by simp; omega)) (.some hf (.pure (h2.le (by omega)) (ht5.set ⟨hsf.1, hsf.2.1, hsf.2.2.app ⟨Nat.zero_le _, Nat.zero_le _⟩⟩))))
theorem somePath_ok {k : Int} {r : Reader} (h : Rok k r) (hk : k <= 900000) : Dr (k + 1) (m_spec_somePath r) (fun p => p.length <= 3) := by
 unfold m_spec_somePath
 refine .bind (pick_ok 8 h (by omega)) fun r2 v2 h2 _ => ?_
 have d : ∀ {l : List Int} {c : Prop} [Decidable c] {y : Option (Reader × List Int)}, l.length <= 3 -> Dr (k + 1) y (fun p => p.length <= 3) -> Dr (k + 1) (if c then some (r2, l) else y) (fun p => p.length <= 3) := fun hl hy => .ite (fun _ => .pure h2 hl) fun _ => hy
 exact d (by decide) (d (by decide) (d (by decide) (d (by decide) (d (by decide) (.pure h2 (by decide))))))
theorem anyPath_ok {k : Int} {r : Reader} (h : Rok k r) (hk : k <= 800000) : Dr (k + 2) (m_spec_anyPath r) (fun p => p.length <= 3) := by
 unfold m_spec_anyPath
 refine .bind (pick_ok 20 h (by omega)) fun r2 v2 h2 _ => .ite (fun _ => ?_) fun _ => .bind (somePath_ok h2 (by omega)) fun r3 p h3 hp => .pure (h3.le (by omega)) hp
 refine .bind (pick_ok 3 h2 (by omega)) fun r3 v3 h3 hv => ?_
 obtain ⟨x, hx, hm⟩ := atI_ok (l := ([[], [0, 0], [3]] : List (List Int))) hv.1 (hv.2 (by decide))
 exact .some hx (.pure (h3.le (by omega)) ((by decide : ∀ x ∈ ([[], [0, 0], [3]] : List (List Int)), x.length <= 3) x hm))
theorem newReader_ok (c : List UInt8) : ∃ r, m_spec_newReader c = some r /\ Rok 0 r := by
 unfold m_spec_newReader
 by_cases h : (c.length : Int) > 2000
 ·
  rw [if_pos (by simpa [cmpI] using h), show (2000 : Int) = ((2000 : Nat) : Int) from rfl, sliHO_nat (by omega), Option.bind_some, Option.bind_some]
  exact ⟨_, rfl, by show (c.take 2000).length <= 2000; simp; omega, Int.le_refl _, Int.le_refl _⟩
 ·
  rw [if_neg (by simpa [cmpI] using h), Option.bind_some]
  exact ⟨_, rfl, by show c.length <= 2000; omega, Int.le_refl _, Int.le_refl _⟩
theorem smT.sm {t : Tree} (h : smT 11 5 t) : smTree t := by
 refine ⟨by have := h.1; omega, fun f hf => ?_⟩
 obtain ⟨h1, h2, h3, h4⟩ := h.2 f hf
 exact ⟨by omega, by omega, by omega, fun s hs => ⟨by have := (h4 s hs).1; omega, by have := (h4 s hs).2; omega⟩⟩
theorem modName_len {f : File} {n : Nat} (h : smF n f) : (moduleName f).l.length <= 64 := by
 obtain ⟨h1, h2, _⟩ := h
 unfold moduleName child
 split
 ·
  omega
 ·
  split
  ·
   omega
  ·
   simp only [List.length_append, List.length_singleton]; omega
theorem nameOf_ok {k : Int} {r : Reader} (h : Rok k r) (hk : k <= 300000) : Dr (k + 2300) (m_spec_nameOf r) (fun v => smT 11 5 v.1 /\ v.2.1.length <= 3 /\ v.2.2.l.length <= 64) := by
 unfold m_spec_nameOf
 refine .bind (anyTree_ok h (by omega)) fun r1 t h1 ht => .bind (anyPath_ok h1 (by omega)) fun r2 q h2 hq => ?_
 dsimp only
 cases hc : cmpI .gtr (t.files.length : Int) 0 with
 |
  false =>
  rw [show ((false : Bool) == true) = false from rfl, gO_false, Option.bind_some]
  refine .ite (fun h => by simp at h) fun _ => ?_
  rw [if_neg (by decide)]
  exact .bind (anyName_ok h2 (by omega)) fun r3 s h3 hs => .pure (h3.le (by omega)) ⟨ht, hq, Nat.le_trans hs (by decide)⟩
 |
  true =>
  have hl : 0 < (t.files.length : Int) := of_decide_eq_true hc
  rw [show ((true : Bool) == true) = true from rfl, gO_true]
  refine .bind (pick_ok 4 h2 (by omega)) fun r3 v h3 _ => ?_
  rw [if_pos rfl]
  refine .ite (fun _ => ?_) fun _ => .bind (anyName_ok h3 (by omega)) fun r4 s h4 hs => .pure (h4.le (by omega)) ⟨ht, hq, Nat.le_trans hs (by decide)⟩
  refine .bind (pick_ok _ h3 (by omega)) fun r4 i h4 hi => ?_
  obtain ⟨f, hf, hm⟩ := atI_ok (l := t.files) hi.1 (hi.2 (by omega))
  exact .some hf (.some (if_pos (ht.sm.2 f hm)) (.pure (h4.le (by omega)) ⟨ht, hq, modName_len (ht.2 f hm)⟩))
theorem smB.one {s : Stmt} (h : smS s) : smB 1 [s] := ⟨Nat.le_refl _, fun x hx => by rw [List.mem_singleton.1 hx]; exact h⟩
theorem plainS1 {k i n : Int} {r0 r : Reader} {t : Tree} {x : List Stmt} {j : Nat} (ht : smT 11 5 t) (h : Rok k r) (hk : k <= 300000) (hi : 0 < i) (hil : i <= t.files.length) (hn : 0 < n) (hn2 : n <= 1000) (hj : j <= 100) (hx : smB (j + 1) x) : ∃ r' x', m_spec_plainOf_s1 (r0, t, i) (r, x, n) = some (.inl (r', x', n - 1)) /\ Rok (k + 3) r' /\ smB (j + 2) x' := by
 have key : ∃ y, m_spec_plainOf_s1 (r0, t, i) (r, x, n) = Option.some y /\ ∃ r' x', y = .inl (r', x', n - 1) /\ Rok (k + 3) r' /\ smB (j + 2) x' := by
  unfold m_spec_plainOf_s1
  dsimp only
  rw [if_pos (by simp [cmpI]; omega)]
  refine Dr.step (k := k + 3) (P := smB (j + 2)) ?_ fun r4 x4 h4 hx4 => ⟨_, by dsimp only; rw [i64_of (by omega) (by omega), Option.bind_some], r4, x4, rfl, h4, hx4⟩
  refine .bind (pick_ok i h (by omega)) fun r1 v h1 hv => ?_
  have hvi := hv.2 (by omega)
  obtain ⟨f, hf, hm⟩ := atI_ok (l := t.files) hv.1 (by omega)
  have hml := modName_len (ht.2 f hm)
  have hmid : mid (moduleName f) := by unfold mid; omega
  have hxl := hx.1
  refine .some hf (.some (if_pos (ht.sm.2 f hm)) (.some (if_pos hmid) ?_))
  have hone : ∀ {r2 : Reader}, Rok (k + 2) r2 -> validName (moduleName f) = true -> Dr (k + 3) ((m_spec_reader_one r2 ([(0 : Int), (0 : Int), (2 : Int)] : List Int)).bind fun v110 => (appO 56 x ([(⟨v110.2, moduleName f, 0, ⟨[]⟩, 0⟩ : Stmt)] : List Stmt)).bind fun v118 => Option.some (v110.1, v118)) (smB (j + 2)) := fun h2 hval =>
   .bind (one_ok (fun _ => True) h2 (by omega) (by decide) (fun _ _ => trivial)) fun r3 a h3 _ => .some (appO_of (by simp; omega) (by simp; omega)) (.pure (h3.le (by omega)) (hx.app ⟨by have := validName_len hval; show (moduleName f).l.length <= 16; omega, Nat.zero_le _⟩))
  cases hval : validName (moduleName f) with
  | false => exact .any ⟨_, rfl⟩ fun o => .any ⟨_, rfl⟩ fun o2 => .ite (fun _ => by rw [if_neg (by simp)]; exact .pure (h1.le (by omega)) (hx.le (by omega))) fun h => absurd rfl h
  |
   true =>
   rw [show ((!true : Bool) == false) = true from rfl, gO_true]
   refine .some (if_pos hmid) ?_
   cases hd : decide (parent (moduleName f) ≠ (⟨[]⟩ : Str)) with
   |
    false =>
    refine .any ⟨_, rfl⟩ fun o => .ite (fun h => by simp at h) fun _ => ?_
    rw [if_neg (by simp)]
    exact hone (h1.le (by omega)) hval
   |
    true =>
    rw [show ((true : Bool) && ((true : Bool) == true)) = true from rfl, gO_true]
    refine .bind (pick_ok 2 h1 (by omega)) fun r2 v2 h2 _ => ?_
    rw [if_pos rfl]
    exact .ite (fun _ => .pure (h2.le (by omega)) (hx.le (by omega))) fun _ => hone (h2.le (by omega)) hval
 obtain ⟨y, e, r', x', rfl, e2, e3⟩ := key
 exact ⟨r', x', e, e2, e3⟩
theorem plainL1 {k i n : Int} {r0 r : Reader} {t : Tree} {s : Stmt} (ht : smT 11 5 t) (h : Rok k r) (hk : k <= 200000) (_hi : 0 <= i) (hil : i <= t.files.length) (hn : n <= 2) (hs : smS s) : Dr (k + 6) (loopM (fun s58 => m_spec_plainOf_s1 (r0, t, i) s58) (r, [s], n)) (smB 3) := by
 have hend : ∀ (r : Reader) (x : List Stmt) (n : Int), n <= 0 \/ i <= 0 -> m_spec_plainOf_s1 (r0, t, i) (r, x, n) = some (.inr (r, x)) := fun r x n hn => by
  unfold m_spec_plainOf_s1
  dsimp only
  rw [if_neg (by simp [cmpI]; omega)]
 by_cases hi0 : i <= 0
 ·
  exact ⟨r, [s], loopM_of (m := 1) (iterM_inr (hend r [s] n (.inr hi0))) (by omega), h.le (by omega), (smB.one hs).le (by omega)⟩
 ·
  refine (loop_down (fun j => k + 3 * j) (fun j x => smB (j + 1) x) 2 (fun i j hij => by omega) (fun j r x n hj hr hx hn hb => ?_) (fun r x n hn => hend r x n (.inl hn)) (by omega) (h.le (by show k <= k + 3 * ((0 : Nat) : Int); omega)) (smB.one hs) (by exact hn)).mono (by show k + 3 * ((2 : Nat) : Int) <= k + 6; omega) (fun y ⟨j, hj, hy⟩ => hy.le (by omega))
  obtain ⟨r', x', e, e2, e3⟩ := plainS1 (r0 := r0) ht hr (by omega) (by omega) hil hn (by omega) (by omega) hx
  exact ⟨r', x', e, e2.le (by show k + 3 * (j : Int) + 3 <= k + 3 * ((j + 1 : Nat) : Int); omega), e3⟩
theorem plainL0 {t0 : Tree} (h0 : smT 11 5 t0) {k : Int} (hk : k <= 100000) {r : Reader} (h : Rok k r) : Dr (k + 110) (loopM (fun s35 => m_spec_plainOf_s0 s35) (r, t0, (0 : Int))) (smT 11 5) := by
 have hlen0 := h0.1
 have key : ∀ q j (r : Reader) (t : Tree), j + q = t.files.length -> t.files.length <= 11 -> Rok (k + 10 * j) r -> smT 11 5 t -> ∃ r' y, iterM (fun s35 => m_spec_plainOf_s0 s35) (q + 1) (r, t, (j : Int)) = some (r', y) /\ Rok (k + 110) r' /\ smT 11 5 y := by
  intro q
  induction q with
  |
   zero =>
   intro j r t hj hl hr ht
   refine ⟨r, t, iterM_inr ?_, hr.le (by omega), ht⟩
   unfold m_spec_plainOf_s0
   dsimp only
   rw [lss_nat, if_neg (by simp; omega)]
  |
   succ q ih =>
   intro j r t hj hl hr ht
   obtain ⟨f, hf, hm⟩ := get_some (l := t.files) (k := j) (by omega)
   have key2 : ∃ y, m_spec_plainOf_s0 (r, t, (j : Int)) = Option.some y /\ ∃ r' t', y = .inl (r', t', ((j + 1 : Nat) : Int)) /\ Rok (k + 10 * ((j + 1 : Nat) : Int)) r' /\ smT 11 5 t' /\ t'.files.length = t.files.length := by
    unfold m_spec_plainOf_s0
    dsimp only
    rw [lss_nat, if_pos (decide_eq_true (by omega))]
    refine Dr.step (k := k + 10 * j + 9) (P := fun t' => smT 11 5 t' /\ t'.files.length = t.files.length) ?_ fun r4 t4 h4 ht4 => ⟨_, by dsimp only; rw [i64_succ (by omega), Option.bind_some], r4, t4, rfl, h4.le (by omega), ht4.1, ht4.2⟩
    refine .bind (k := k + 10 * j + 8) (P := smB 3) ?_ fun r3 b h3 hb => ?_
    ·
     refine .bind (pick_ok 3 hr (by omega)) fun r1 v h1 hv => ?_
     have hv3 := hv.2 (by omega)
     exact (plainL1 (k := k + 10 * j + 1) ht h1 (by omega) (by omega) (by omega) (by omega) ⟨Nat.zero_le _, by show 1 <= 16; omega⟩).mono (by omega) fun _ h => h
    ·
     refine .some (x := atI t.files (j : Int)) (by rw [atI_nat]; exact hf) (.pure (h3.le (by omega)) ⟨ht.set ⟨(ht.2 f hm).1, (ht.2 f hm).2.1, hb.le (by omega)⟩, ?_⟩)
     show (t.files.set _ _).length = _
     rw [List.length_set]
   obtain ⟨y, e, r', t', rfl, e2, e3, e4⟩ := key2
   rw [iterM_inl e]
   exact ih (j + 1) r' t' (by omega) (by omega) e2 e3
 obtain ⟨r', y, e, e2, e3⟩ := key t0.files.length 0 r t0 (by omega) hlen0 (h.le (by omega)) h0
 exact ⟨r', y, loopM_of e (by omega), e2, e3⟩
theorem plainOf_ok {k : Int} {r : Reader} (h : Rok k r) (hk : k <= 50000) : Dr (k + 2500) (m_spec_plainOf r) (fun v => smT 11 5 v.1 /\ v.2.1.length <= 3 /\ v.2.2.l.length <= 64) := by
 unfold m_spec_plainOf
 refine .bind (nameOf_ok h (by omega)) fun r1 v h1 hv => .bind (pick_ok 3 h1 (by omega)) fun r2 p h2 _ => ?_
 obtain ⟨t, q, s⟩ := v
 refine .ite (fun _ => .pure (h2.le (by omega)) hv) fun _ => ?_
 exact .bind (plainL0 hv.1 (by omega) h2) fun r3 t3 h3 ht3 => .pure (h3.le (by omega)) ⟨ht3, hv.2⟩
theorem DrawMissingOf_ok (c : List UInt8) : ∃ t path s, m_spec_DrawMissingOf c = some (t, path, s) /\ smT 11 5 t /\ path.length <= 3 /\ s.l.length <= 64 := by
 obtain ⟨r, h1, h2⟩ := newReader_ok c
 obtain ⟨r1, ⟨t, q, s⟩, e1, k1, p1, p2, p3⟩ := plainOf_ok h2 (by omega)
 refine ⟨t, q, s, ?_, p1, p2, p3⟩
 unfold m_spec_DrawMissingOf
 rw [h1, Option.bind_some, e1, Option.bind_some]
end Go.Proofs.YtbnibckkfknpkaaGreatDoor
namespace Go.Proofs.YtbnibckkfknpkaaGreatDoor
open Go.RowKit
theorem lastByte (s : Str) (c : UInt8) (hs : s.l.length <= 1000000) : (∃ pre post, s.l = pre ++ c :: post /\ c ∉ post /\ m_strings_LastIndexByte s c = some (pre.length : Int)) \/ (c ∉ s.l /\ m_strings_LastIndexByte s c = some (-1)) := by
 have key : ∀ k, k <= s.l.length -> c ∉ s.l.drop k -> ∃ r, iterM (fun s6 => m_internal_bytealg_LastIndexByteString_s0 s c s6) (k + 1) ((k : Int) - 1) = some r /\ ((∃ pre post, s.l = pre ++ c :: post /\ c ∉ post /\ r = .inr (pre.length : Int)) \/ (c ∉ s.l /\ r = .inl ())) := by
  intro k
  induction k with
  |
   zero =>
   intro _ hc
   refine ⟨.inl (), iterM_inr ?_, .inr ⟨by simpa using hc, rfl⟩⟩
   unfold m_internal_bytealg_LastIndexByteString_s0
   rw [if_neg (by simp [cmpI])]
  |
   succ k ih =>
   intro hk hc
   have hb : s.l[k]? = some s.l[k] := List.getElem?_eq_getElem (by omega)
   have hd : s.l.drop k = s.l[k] :: s.l.drop (k + 1) := List.drop_eq_getElem_cons (by omega)
   have e1 : ((k + 1 : Nat) : Int) - 1 = (k : Int) := by omega
   rw [e1]
   by_cases h : s.l[k] = c
   ·
    refine ⟨.inr (k : Int), iterM_inr ?_, .inl ⟨s.l.take k, s.l.drop (k + 1), ?_, hc, by simp; omega⟩⟩
    ·
     unfold m_internal_bytealg_LastIndexByteString_s0
     rw [if_pos (by simp [cmpI]), atI_nat, hb, Option.bind_some, if_pos (by simp [cmpB, h])]
    ·
     rw [← h, ← hd, List.take_append_drop]
   ·
    have hs1 : m_internal_bytealg_LastIndexByteString_s0 s c (k : Int) = some (.inl ((k : Int) - 1)) := by
     unfold m_internal_bytealg_LastIndexByteString_s0
     rw [if_pos (by simp [cmpI]), atI_nat, hb, Option.bind_some, if_neg (by simp [cmpB, h]), i64_of (by omega) (by omega), Option.bind_some]
    rw [iterM_inl hs1]
    exact ih (by omega) (by rw [hd]; simp only [List.mem_cons, not_or]; exact ⟨fun e => h e.symm, hc⟩)
 obtain ⟨r, h1, h2⟩ := key s.l.length (Nat.le_refl _) (by simp)
 have hl : m_strings_LastIndexByte s c = Option.bind (some r) (Sum.elim (fun _ => some (-1)) some) := by
  unfold m_strings_LastIndexByte m_internal_bytealg_LastIndexByteString
  rw [i64_of (by omega) (by omega), Option.bind_some, loopM_of h1 (by omega)]
  cases r <;> rfl
 rcases h2 with ⟨pre, post, e1, e2, rfl⟩ | ⟨e1, rfl⟩
 ·
  exact .inl ⟨pre, post, e1, e2, hl⟩
 ·
  exact .inr ⟨e1, hl⟩
theorem split_last {s : Str} {pre post : List UInt8} (h : s.l = pre ++ 46 :: post) (hp : (46 : UInt8) ∉ post) : splitAt s dot = splitAt ⟨pre⟩ dot ++ [⟨post⟩] := by
 have e : s = ⟨((⟨pre⟩ : Str).l ++ [46]) ++ (⟨post⟩ : Str).l⟩ := by
  cases s
  simp only at h ⊢
  rw [h]
  simp
 have e2 : splitAt ⟨post⟩ dot = [⟨post⟩] := by
  rw [splitAt_cutF]
  show (cutF 46 post).map Str.mk = _
  rw [cutF_one 46 post hp]
  rfl
 rw [e, split_append, e2]
theorem split_none {s : Str} (h : (46 : UInt8) ∉ s.l) : splitAt s dot = [s] := by
 rw [splitAt_cutF]
 show (cutF 46 s.l).map Str.mk = _
 rw [cutF_one 46 s.l h]
 rfl
theorem parent_of {s : Str} {pre post : List UInt8} (h : s.l = pre ++ 46 :: post) (hp : (46 : UInt8) ∉ post) : parent s = ⟨pre⟩ /\ lastPart s = ⟨post⟩ := by
 unfold parent lastPart
 rw [split_last h hp]
 constructor
 ·
  rw [List.length_append, List.length_singleton, Nat.add_sub_cancel, List.take_left]
  exact join_split ⟨pre⟩
 ·
  simp
theorem parent_none {s : Str} (h : (46 : UInt8) ∉ s.l) : parent s = emptyS /\ lastPart s = s := by
 unfold parent lastPart
 rw [split_none h]
 exact ⟨rfl, rfl⟩
theorem ParentOf_eq {s : Str} (hv : validName s = true) : m_impl_ParentOf s = some (parent s) := by
 have hl := validName_len hv
 unfold m_impl_ParentOf
 rcases lastByte s 46 (by omega) with ⟨pre, post, e1, e2, e3⟩ | ⟨e1, e3⟩
 ·
  rw [show m_strings_LastIndexByte s (UInt8.ofNat 46) = some (pre.length : Int) from e3, Option.bind_some, ValidName_eq (validName_sho hv), Option.bind_some, hv, if_neg (by simp [cmpI]), cutHO_nat (by rw [e1, List.length_append]; omega), Option.bind_some, (parent_of e1 e2).1, e1, List.take_left]
 ·
  rw [show m_strings_LastIndexByte s (UInt8.ofNat 46) = some (-1) from e3, Option.bind_some, ValidName_eq (validName_sho hv), Option.bind_some, hv, if_pos (by simp [cmpI]), (parent_none e1).1]
  rfl
end Go.Proofs.YtbnibckkfknpkaaGreatDoor
namespace Go.Proofs.YtbnibckkfknpkaaGreatDoor
open Go.RowKit
end Go.Proofs.YtbnibckkfknpkaaGreatDoor
namespace Go.Proofs.YtbnibckkfknpkaaGreatDoor
open Go.RowKit
section
variable {α : Type} [DecidableEq α]
def addU (out : List α) (x : α) : List α := if x ∈ out then out else out ++ [x]
def addAll (out l : List α) : List α := l.foldl addU out
theorem addU_mem {out : List α} {x y : α} : y ∈ addU out x ↔ y ∈ out \/ y = x := by
 unfold addU
 split
 ·
  rename_i h
  constructor
  ·
   exact Or.inl
  ·
   rintro (h1 | rfl)
   ·
    exact h1
   ·
    exact h
 ·
  rw [List.mem_append, List.mem_singleton]
theorem addAll_mem : ∀ {l out : List α} {y : α}, y ∈ addAll out l ↔ y ∈ out \/ y ∈ l
 | [], out, y => by simp [addAll]
 |
  x :: l, out, y => by
  show y ∈ addAll (addU out x) l ↔ _
  rw [addAll_mem, addU_mem, List.mem_cons, or_assoc]
theorem addU_nodup {out : List α} {x : α} (h : out.Nodup) : (addU out x).Nodup := by
 unfold addU
 split
 ·
  exact h
 ·
  rename_i hx
  rw [List.nodup_append]
  refine ⟨h, by simp, ?_⟩
  intro a ha b hb e
  rw [List.mem_singleton] at hb
  subst hb; subst e
  exact hx ha
theorem addAll_nodup : ∀ {l out : List α}, out.Nodup -> (addAll out l).Nodup
 | [], _, h => h
 | x :: l, out, h => addAll_nodup (l := l) (out := addU out x) (addU_nodup h)
theorem addU_pre (out : List α) (x : α) : ∃ t, addU out x = out ++ t := by
 unfold addU
 split
 ·
  exact ⟨[], by simp⟩
 ·
  exact ⟨[x], rfl⟩
theorem addAll_pre : ∀ (l out : List α), ∃ t, addAll out l = out ++ t
 | [], out => ⟨[], by simp [addAll]⟩
 |
  x :: l, out => by
  obtain ⟨t, ht⟩ := addU_pre out x
  obtain ⟨u, hu⟩ := addAll_pre l (addU out x)
  exact ⟨t ++ u, by show addAll (addU out x) l = _; rw [hu, ht, List.append_assoc]⟩
theorem addAll_app (out l m : List α) : addAll out (l ++ m) = addAll (addAll out l) m := by
 unfold addAll
 rw [List.foldl_append]
theorem addAll_self : ∀ (l out : List α), (out ++ l).Nodup -> addAll out l = out ++ l
 | [], out, _ => by simp [addAll]
 |
  x :: l, out, h => by
  show addAll (addU out x) l = _
  have hx : x ∉ out := by
   rw [List.nodup_append] at h
   exact fun hx => h.2.2 x hx x (List.mem_cons_self ..) rfl
  rw [show addU out x = out ++ [x] from if_neg hx, addAll_self l (out ++ [x]) (by simpa using h)]
  simp
theorem addAll_nil {l : List α} (h : l.Nodup) : addAll [] l = l := by rw [addAll_self l [] (by simpa using h)]; rfl
def uniq (l : List α) : List α := addAll [] l
theorem uniq_app {out l : List α} (h : out.Nodup) : uniq (out ++ l) = addAll out l := by
 unfold uniq
 rw [addAll_app, addAll_nil h]
theorem uniq_mem {l : List α} {x : α} : x ∈ uniq l ↔ x ∈ l := by unfold uniq; rw [addAll_mem]; simp
theorem addU_len (out : List α) (x : α) : (addU out x).length <= out.length + 1 := by
 unfold addU
 split
 ·
  omega
 ·
  simp
theorem addAll_len : ∀ (l out : List α), (addAll out l).length <= out.length + l.length
 | [], out => by simp [addAll]
 |
  x :: l, out => by
  have h1 := addAll_len l (addU out x)
  have h2 := addU_len out x
  show (addAll (addU out x) l).length <= _
  rw [List.length_cons]
  omega
theorem uniq_len (l : List α) : (uniq l).length <= l.length := by
 have := addAll_len l []
 unfold uniq
 simpa using this
theorem nodupLen : ∀ {l m : List α}, l.Nodup -> (∀ x ∈ l, x ∈ m) -> l.length <= m.length
 | [], _, _, _ => Nat.zero_le _
 |
  x :: l, m, hn, hs => by
  rw [List.nodup_cons] at hn
  have hx := hs x (List.mem_cons_self ..)
  have h1 := nodupLen (l := l) (m := m.erase x) hn.2 fun y hy => (List.mem_erase_of_ne (by intro e; subst e; exact hn.1 hy)).2 (hs y (List.mem_cons_of_mem _ hy))
  have h2 := List.length_erase_of_mem hx
  have h3 := List.length_pos_of_mem hx
  rw [List.length_cons]
  omega
def reachR (E : α -> List α) : Nat -> Nat -> List α -> List α
 | 0, _, out => out
 |
  m + 1, k, out => match out[k]? with
  | none => out
  | some x => reachR E m (k + 1) (addAll out (E x))
inductive Way (E : α -> List α) (l : List α) : α -> Prop
 | here {x} : x ∈ l -> Way E l x
 | step {x y} : Way E l x -> y ∈ E x -> Way E l y
omit [DecidableEq α] in
theorem Way.mono {E : α -> List α} {l m : List α} (h : ∀ x ∈ l, Way E m x) {x : α} (hw : Way E l x) : Way E m x := by
 induction hw with
 | here hx => exact h _ hx
 | step _ hy ih => exact .step ih hy
theorem reachR_nodup {E : α -> List α} : ∀ (m k : Nat) (out : List α), out.Nodup -> (reachR E m k out).Nodup
 | 0, _, _, h => h
 |
  m + 1, k, out, h => by
  unfold reachR
  split
  ·
   exact h
  ·
   exact reachR_nodup m (k + 1) _ (addAll_nodup h)
theorem reachR_sub {E : α -> List α} {U : List α} (hE : ∀ x ∈ U, ∀ y ∈ E x, y ∈ U) : ∀ (m k : Nat) (out : List α), (∀ x ∈ out, x ∈ U) -> ∀ x ∈ reachR E m k out, x ∈ U
 | 0, _, _, h, x, hx => h x hx
 |
  m + 1, k, out, h, x, hx => by
  unfold reachR at hx
  split at hx
  ·
   exact h x hx
  ·
   rename_i y hy
   refine reachR_sub hE m (k + 1) _ (fun z hz => ?_) x hx
   rcases addAll_mem.1 hz with h1 | h1
   ·
    exact h z h1
   ·
    exact hE y (h y (List.mem_of_getElem? hy)) z h1
end
theorem loop_grow {α β S : Type} [DecidableEq α] {step : S -> Option (S ⊕ β)} (mk : List α -> Nat -> S) (E : α -> List α) (U : List α) (hE : ∀ x ∈ U, ∀ y ∈ E x, y ∈ U) (fin : List α -> β)
  (h : ∀ k out x, out[k]? = some x -> out.Nodup -> (∀ y ∈ out, y ∈ U) -> step (mk out k) = some (.inl (mk (addAll out (E x)) (k + 1))))
  (hend : ∀ out, out.Nodup -> (∀ y ∈ out, y ∈ U) -> step (mk out out.length) = some (.inr (fin out)))
  {out : List α} (hn : out.Nodup) (hs : ∀ y ∈ out, y ∈ U) (hU : U.length < 576460752303423488) {s : S} (h0 : s = mk out 0) : loopM step s = some (fin (reachR E U.length 0 out)) := by
 subst h0
 have key : ∀ m k out, out.Nodup -> (∀ y ∈ out, y ∈ U) -> U.length <= m + k -> k <= out.length -> iterM step (m + 1) (mk out k) = some (fin (reachR E m k out)) := by
  intro m
  induction m with
  |
   zero =>
   intro k out hn hs hm hk
   have hl := nodupLen hn hs
   have : k = out.length := by omega
   subst this
   exact iterM_inr (hend out hn hs)
  |
   succ m ih =>
   intro k out hn hs hm hk
   unfold reachR
   cases hx : out[k]? with
   |
    none =>
    rw [List.getElem?_eq_none_iff] at hx
    have : k = out.length := by omega
    subst this
    exact iterM_inr (hend out hn hs)
   |
    some x =>
    have hkl : k < out.length := (List.getElem?_eq_some_iff.1 hx).1
    rw [iterM_inl (h k out x hx hn hs)]
    refine ih (k + 1) _ (addAll_nodup hn) (fun w hw => ?_) (by omega) ?_
    ·
     rcases addAll_mem.1 hw with h1 | h1
     ·
      exact hs w h1
     ·
      exact hE x (hs x (List.mem_of_getElem? hx)) w h1
    ·
     obtain ⟨t, ht⟩ := addAll_pre (E x) out
     rw [ht, List.length_append]
     omega
 exact loopM_of (key U.length 0 out hn hs (by omega) (Nat.zero_le _)) (by omega)
end Go.Proofs.YtbnibckkfknpkaaGreatDoor
namespace Go.Proofs.YtbnibckkfknpkaaGreatDoor
open Go.RowKit
def upN : Nat -> Str -> Str
 | 0, p => p
 | n + 1, p => upN n (parent p)
def resolveL (p : Str) (lv : Int) (m : Str) : Str := if cmpI .eql lv 0 = true then m else if upN (lv - 1).toNat p = emptyS then emptyS else if m = emptyS then upN (lv - 1).toNat p else child (upN (lv - 1).toNat p) m
def stName (p : Str) (s : Stmt) : Str := if (cmpI .eql s.kind 0 || cmpI .eql s.kind 2) = true then s.module else if cmpI .eql s.kind 1 = true then resolveL p s.level s.module else emptyS
def bodyNames (p : Str) (b : List Stmt) : List Str := (b.map (stName p)).filter validName
def pkgOf (n : Str) (s : Spec) : Str := if cmpI .eql s.kind 1 = true then parent n else n
def fileOf (t : List File) (k : Int) : File := (t[k.toNat]?).getD default
def needsL (t : List File) (n : Str) (s : Spec) : List Str := if cmpI .lss s.file 0 = true then [] else uniq (bodyNames (pkgOf n s) (fileOf t s.file).body)
def needsOf (t : List File) (path : List Int) (n : Str) : List Str := needsL t n (find t path n)
def edgesOf (t : List File) (path : List Int) (n : Str) : List Str := uniq ((needsOf t path n).flatMap above)
def fileLeads (f : File) : List Str := (bodyNames f.pkg f.body).flatMap above
def worldOf (t : List File) (s : Str) : List Str := above s ++ t.flatMap fileLeads
theorem idxOf_some {α : Type} {p : α -> Bool} {l : List α} (h : cmpI .lss (idxOf p l) 0 = false) : ∃ x, l[(idxOf p l).toNat]? = some x /\ p x = true := by
 unfold idxOf at h ⊢
 cases e : l.findIdx? p with
 | none => rw [e] at h; exact absurd h (by decide)
 |
  some i =>
  rw [List.findIdx?_eq_some_iff_getElem] at e
  obtain ⟨hi, h1, _⟩ := e
  exact ⟨l[i], by simp only [Int.toNat_natCast]; exact List.getElem?_eq_getElem hi, h1⟩
theorem findRun_gfile {t : List File} {p s : Str} : ∀ (rs acc : List Int), cmpI .lss (findRun t p s acc rs).file 0 = false -> ∃ f, t[(findRun t p s acc rs).file.toNat]? = some f /\ (((findRun t p s acc rs).kind = 2 /\ f.init = true /\ f.pkg = child p s) \/ ((findRun t p s acc rs).kind = 1 /\ f.init = false /\ f.pkg = p /\ f.name = s))
 |
  [], acc, h => by
  unfold findRun at h
  split at h
  ·
   exact absurd (show cmpI .lss (-1 : Int) 0 = false from h) (by decide)
  ·
   exact absurd (show cmpI .lss (-1 : Int) 0 = false from h) (by decide)
 |
  r :: rs, acc, h => by
  unfold findRun at h ⊢
  split at h
  ·
   rename_i hc
   rw [if_pos hc]
   obtain ⟨f, h1, h2⟩ := idxOf_some h
   refine ⟨f, h1, .inl ⟨rfl, ?_⟩⟩
   unfold sameFile at h2
   simp only [Bool.and_eq_true, beq_iff_eq, decide_eq_true_eq] at h2
   exact ⟨h2.1.2, h2.1.1.2⟩
  ·
   rename_i hc
   rw [if_neg hc]
   split at h
   ·
    rename_i hc2
    rw [if_pos hc2]
    obtain ⟨f, h1, h2⟩ := idxOf_some h
    refine ⟨f, h1, .inr ⟨rfl, ?_⟩⟩
    unfold sameFile at h2
    simp only [Bool.and_eq_true, beq_iff_eq, decide_eq_true_eq] at h2
    exact ⟨h2.1.2, h2.1.1.2, h2.2⟩
   ·
    rename_i hc2
    rw [if_neg hc2]
    exact findRun_gfile rs _ h
theorem parent_child {p s : Str} (hs : validPart s = true) : parent (child p s) = p := by
 unfold child
 split
 ·
  rename_i h
  rw [(parent_none (validPart_dot hs)).1, h]
 ·
  have h : (⟨(p.l ++ [46]) ++ s.l⟩ : Str).l = p.l ++ 46 :: s.l := by simp
  rw [(parent_of h (validPart_dot hs)).1]
theorem find_gfile {t : Tree} (hv : validTree t = true) {path : List Int} {n : Str} (hn : validName n = true) (h : cmpI .lss (find t.files path n).file 0 = false) : ∃ f, t.files[(find t.files path n).file.toNat]? = some f /\ f ∈ t.files /\ moduleName f = n /\ pkgOf n (find t.files path n) = f.pkg := by
 rcases find_last (t := t.files) (path := path) hn with e | ⟨r, p, s, e, hc⟩
 ·
  rw [e] at h; exact absurd h (by decide)
 ·
  rw [e] at h ⊢
  obtain ⟨f, h1, h2⟩ := findRun_gfile _ _ h
  have hm := List.mem_of_getElem? h1
  refine ⟨f, h1, hm, ?_⟩
  unfold moduleName pkgOf findIn
  rcases h2 with ⟨h3, h4, h5⟩ | ⟨h3, h4, h5, h6⟩
  ·
   rw [h3, h4, h5, hc]; exact ⟨rfl, rfl⟩
  ·
   have hf := validTree_file hv hm
   have hp : validPart f.name = true := by
    unfold validFile at hf
    split at hf
    ·
     cases hf
    ·
     rw [h4, if_neg (by decide), Bool.and_eq_true] at hf
     exact hf.1
   have hpn : parent n = p := by rw [← hc]; exact parent_child (by rw [← h6]; exact hp)
   rw [h3, h4, h5, h6, if_neg (by decide), hc]
   exact ⟨rfl, hpn⟩
theorem validTree_body {t : Tree} (hv : validTree t = true) {f : File} (hf : f ∈ t.files) : validBody f.body = true := by
 have h := validTree_file hv hf
 unfold validFile at h
 cases hb : validBody f.body with
 | true => rfl
 | false => rw [hb, if_pos (by simp)] at h; cases h
theorem fileOf_some {t : List File} {k : Int} {f : File} (h : t[k.toNat]? = some f) : fileOf t k = f := by unfold fileOf; rw [h]; rfl
theorem bodyNames_valid {p : Str} {b : List Stmt} {x : Str} (h : x ∈ bodyNames p b) : validName x = true := (List.mem_filter.1 h).2
theorem bodyNames_len (p : Str) (b : List Stmt) : (bodyNames p b).length <= b.length := by
 unfold bodyNames
 refine Nat.le_trans (List.length_filter_le _ _) ?_
 rw [List.length_map]; omega
theorem needsOf_valid {t : List File} {path : List Int} {n x : Str} (h : x ∈ needsOf t path n) : validName x = true := by
 unfold needsOf needsL at h
 split at h
 ·
  cases h
 ·
  exact bodyNames_valid (uniq_mem.1 h)
theorem above_len3 {s : Str} (h : validName s = true) : (above s).length <= 3 := by
 have := (validName_parts h).2
 rw [above_len]; omega
theorem above_flat_len (l : List Str) (h : ∀ x ∈ l, validName x = true) : (l.flatMap above).length <= 3 * l.length := by
 induction l with
 | nil => simp
 |
  cons x l ih =>
  have h1 := above_len3 (h x (List.mem_cons_self ..))
  have h2 := ih fun y hy => h y (List.mem_cons_of_mem _ hy)
  rw [List.flatMap_cons, List.length_append, List.length_cons]
  omega
theorem above_flat_valid {l : List Str} (h : ∀ x ∈ l, validName x = true) {y : Str} (hy : y ∈ l.flatMap above) : validName y = true := by
 obtain ⟨x, hx, hxy⟩ := List.mem_flatMap.1 hy
 exact above_valid (h x hx) hxy
theorem needsOf_len {t : Tree} (hv : validTree t = true) {path : List Int} {n : Str} (hn : validName n = true) : (needsOf t.files path n).length <= 8 := by
 unfold needsOf needsL
 cases hf : cmpI .lss (find t.files path n).file 0 with
 | true => rw [if_pos rfl]; exact Nat.zero_le _
 |
  false =>
  obtain ⟨f, h1, h2, _, _⟩ := find_gfile hv hn hf
  have hb := validTree_body hv h2
  unfold validBody at hb
  have hl : f.body.length <= 8 := by
   rw [Bool.and_eq_true] at hb
   have := hb.2
   unfold cmpI at this
   simp only [decide_eq_true_eq] at this
   omega
  rw [if_neg (by decide), fileOf_some h1]
  exact Nat.le_trans (uniq_len _) (Nat.le_trans (bodyNames_len _ _) hl)
theorem edgesOf_len {t : Tree} (hv : validTree t = true) {path : List Int} {n : Str} (hn : validName n = true) : (edgesOf t.files path n).length <= 24 := by
 have h1 := needsOf_len hv (path := path) hn
 have h2 := above_flat_len (needsOf t.files path n) fun _ hy => needsOf_valid hy
 exact Nat.le_trans (uniq_len _) (by omega)
theorem worldOf_valid {t : List File} {s x : Str} (hs : validName s = true) (h : x ∈ worldOf t s) : validName x = true := by
 unfold worldOf at h
 rcases List.mem_append.1 h with h | h
 ·
  exact above_valid hs h
 ·
  obtain ⟨f, _, hx⟩ := List.mem_flatMap.1 h
  exact above_flat_valid (fun _ hy => bodyNames_valid hy) hx
theorem edgesOf_world {t : Tree} (hv : validTree t = true) {path : List Int} {s n x : Str} (hn : validName n = true) (h : x ∈ edgesOf t.files path n) : x ∈ worldOf t.files s := by
 unfold worldOf
 refine List.mem_append.2 (.inr ?_)
 have h0 := uniq_mem.1 h
 obtain ⟨y, hy, hxy⟩ := List.mem_flatMap.1 h0
 unfold needsOf needsL at hy
 cases hf : cmpI .lss (find t.files path n).file 0 with
 | true => rw [hf, if_pos rfl] at hy; cases hy
 |
  false =>
  obtain ⟨f, h1, h2, _, h4⟩ := find_gfile hv hn hf
  rw [hf, if_neg (by decide), fileOf_some h1, h4] at hy
  exact List.mem_flatMap.2 ⟨f, h2, List.mem_flatMap.2 ⟨y, uniq_mem.1 hy, hxy⟩⟩
theorem fileLeads_len {f : File} (h : f.body.length <= 8) : (fileLeads f).length <= 24 := by
 have h1 := above_flat_len (bodyNames f.pkg f.body) fun _ hy => bodyNames_valid hy
 have h2 := bodyNames_len f.pkg f.body
 unfold fileLeads
 omega
theorem validBody_len {b : List Stmt} (h : validBody b = true) : b.length <= 8 := by
 unfold validBody at h
 rw [Bool.and_eq_true] at h
 have := h.2
 unfold cmpI at this
 simp only [decide_eq_true_eq] at this
 omega
theorem worldOf_len {t : Tree} (hv : validTree t = true) {s : Str} (hs : validName s = true) : (worldOf t.files s).length <= 300 := by
 have key : ∀ (l : List File), (∀ f ∈ l, f ∈ t.files) -> (l.flatMap fileLeads).length <= 24 * l.length := by
  intro l
  induction l with
  | nil => intro _; simp
  |
   cons f l ih =>
   intro hl
   have h1 := fileLeads_len (validBody_len (validTree_body hv (hl f (List.mem_cons_self ..))))
   have h2 := ih fun g hg => hl g (List.mem_cons_of_mem _ hg)
   rw [List.flatMap_cons, List.length_append, List.length_cons]
   omega
 have h1 := key t.files fun _ h => h
 have h2 := validTree_len hv
 have h3 := above_len3 hs
 unfold worldOf
 rw [List.length_append]
 omega
theorem above_nodup {s : Str} (h : validName s = true) : (above s).Nodup := by
 have hparts := (validName_parts h).1
 unfold above aboveRun
 refine List.pairwise_map.2 (List.Pairwise.imp_of_mem (fun {a b} ha hb hne e => hne ?_) List.nodup_range)
 rw [List.mem_range] at ha hb
 have h1 := split_join (l := (splitAt s dot).take (a + 1)) (by intro e0; have := congrArg List.length e0; rw [List.length_take, List.length_nil] at this; omega) fun x hx => hparts x (List.mem_of_mem_take hx)
 have h2 := split_join (l := (splitAt s dot).take (b + 1)) (by intro e0; have := congrArg List.length e0; rw [List.length_take, List.length_nil] at this; omega) fun x hx => hparts x (List.mem_of_mem_take hx)
 rw [e, h2] at h1
 have := congrArg List.length h1
 rw [List.length_take, List.length_take] at this
 omega
def reachOf (t : List File) (path : List Int) (s : Str) (l : List Str) : List Str := reachR (edgesOf t path) (worldOf t s).length 0 l
theorem reachOf_len {t : Tree} (hv : validTree t = true) {path : List Int} {s : Str} (hs : validName s = true) {l : List Str} (hn : l.Nodup) (hl : ∀ x ∈ l, x ∈ worldOf t.files s) : (reachOf t.files path s l).length <= 300 :=
 Nat.le_trans (nodupLen (reachR_nodup _ _ _ hn) (reachR_sub (fun _x hx _y hy => edgesOf_world hv (worldOf_valid hs hx) hy) _ _ _ hl)) (worldOf_len hv hs)
end Go.Proofs.YtbnibckkfknpkaaGreatDoor
namespace Go.Proofs.YtbnibckkfknpkaaGreatDoor
open Go.RowKit
def okG (t : Tree) (path : List Int) (s : Str) : Bool := validTree t && validPath path && validName s
theorem okG_spec {t : Tree} {path : List Int} {s : Str} (h : okG t path s = true) : validTree t = true /\ validPath path = true /\ validName s = true := by
 unfold okG at h
 simp only [Bool.and_eq_true] at h
 exact ⟨h.1.1, h.1.2, h.2⟩
section
variable {t : Tree} {path : List Int} {s : Str}
theorem world_closed (hv : validTree t = true) (hs : validName s = true) : ∀ x ∈ worldOf t.files s, ∀ y ∈ edgesOf t.files path x, y ∈ worldOf t.files s :=
 fun _ hx _ hy => edgesOf_world hv (worldOf_valid hs hx) hy
theorem above_world {l : List File} {x : Str} (h : x ∈ above s) : x ∈ worldOf l s := List.mem_append.2 (.inl h)
theorem reachOf_world (hv : validTree t = true) (hs : validName s = true) {l : List Str} (hl : ∀ x ∈ l, x ∈ worldOf t.files s) {x : Str} (h : x ∈ reachOf t.files path s l) : x ∈ worldOf t.files s :=
 reachR_sub (world_closed hv hs) _ _ _ hl x h
theorem reachOf_valid (hv : validTree t = true) (hs : validName s = true) {l : List Str} (hl : ∀ x ∈ l, x ∈ worldOf t.files s) {x : Str} (h : x ∈ reachOf t.files path s l) : validName x = true :=
 worldOf_valid hs (reachOf_world hv hs hl h)
end
def reachA (t : Tree) (path : List Int) (s : Str) : List Str := reachOf t.files path s (above s)
def missing (t : Tree) (path : List Int) (n : Str) : Bool := cmpI .eql (find t.files path n).kind 0
def reachL (t : Tree) (path : List Int) (s : Str) : List Str := if okG t path s = true then ordered (reachA t path s) else []
def missingL (t : Tree) (path : List Int) (s : Str) : List Str := (reachL t path s).filter (missing t path)
section
variable {t : Tree} {path : List Int} {s : Str}
theorem reachA_len (hv : validTree t = true) (hs : validName s = true) : (reachA t path s).length <= 300 := reachOf_len hv hs (above_nodup hs) fun _ h => above_world h
theorem reachA_valid (hv : validTree t = true) (hs : validName s = true) {x : Str} (h : x ∈ reachA t path s) : validName x = true := reachOf_valid hv hs (fun _ h => above_world h) h
theorem reachL_iff (h : okG t path s = true) {x : Str} : x ∈ reachL t path s ↔ x ∈ reachA t path s := by
 unfold reachL
 rw [if_pos h, (ordered_spec _).2]
theorem reachL_asc : Asc (reachL t path s) := by
 unfold reachL
 split
 ·
  exact (ordered_spec _).1
 ·
  exact List.Pairwise.nil
theorem reachL_len : (reachL t path s).length <= 300 := by
 unfold reachL
 split
 ·
  rename_i h
  obtain ⟨h1, _, h2⟩ := okG_spec h
  exact Nat.le_trans (ordered_len _) (reachA_len h1 h2)
 ·
  exact Nat.zero_le _
theorem reachL_valid {x : Str} (h : x ∈ reachL t path s) : validName x = true /\ okG t path s = true := by
 unfold reachL at h
 split at h
 ·
  rename_i h0
  obtain ⟨h1, _, h2⟩ := okG_spec h0
  exact ⟨reachA_valid h1 h2 (((ordered_spec _).2 x).1 h), h0⟩
 ·
  cases h
theorem gather_eq (h : okG t path s = true) (p : Str -> Bool) : ((reachA t path s).filter p).foldl insertT [] = (reachL t path s).filter p := by
 refine asc_ext (insertAll_asc List.Pairwise.nil) (asc_filter _ reachL_asc) fun x => ?_
 rw [insertAll_iff, List.mem_filter, List.mem_filter, reachL_iff h]
 simp
end
end Go.Proofs.YtbnibckkfknpkaaGreatDoor
namespace Go.Proofs.YtbnibckkfknpkaaGreatDoor
open Go.RowKit
theorem any_mem {l : List Str} {x : Str} : l.any (fun y => decide (y = x)) = decide (x ∈ l) := by
 rw [Bool.eq_iff_iff, List.any_eq_true]
 simp
theorem any_mem' {l : List Str} {x : Str} : l.any (fun y => decide (x = y)) = decide (x ∈ l) := by
 rw [Bool.eq_iff_iff, List.any_eq_true]
 simp
theorem spec_hasText_eq {l : List Str} {x : Str} (h : l.length <= 1048576) : m_spec_hasText l x = some (decide (x ∈ l)) := by
 unfold m_spec_hasText m_spec_textAt
 have hl : loopM (fun s4 => m_spec_textAt_s0 l x s4) 0 = some (match l.findIdx? (fun y => decide (y = x)) with | some i => (Sum.inr (i : Int) : Unit ⊕ Int) | none => Sum.inl ()) := by
  refine loop_idx l (fun y => decide (y = x)) (fun i => Sum.inr i) _ (fun k y hx hlt => ?_) ?_ (by omega) rfl
  ·
   unfold m_spec_textAt_s0
   rw [lss_nat, if_pos (decide_eq_true hlt), atI_nat, hx, Option.bind_some, i64_succ (by omega)]
   cases decide (y = x) <;> rfl
  ·
   unfold m_spec_textAt_s0
   rw [lss_nat, if_neg (by simp)]
 have e : Option.bind (α := Unit ⊕ Int) (loopM (fun s4 => m_spec_textAt_s0 l x s4) 0) (Sum.elim (fun _ => some (-1)) some) = some (idxOf (fun y => decide (y = x)) l) := by
  rw [hl]
  unfold idxOf
  cases l.findIdx? (fun y => decide (y = x)) <;> rfl
 rw [e, Option.bind_some, idxOf_ge, any_mem]
theorem ContainsS_eq {l : List Str} {x : Str} (h : l.length <= 1048576) : m_slices_Contains_string_string l x = some (decide (x ∈ l)) := by
 unfold m_slices_Contains_string_string m_slices_Index_string_string
 have hl : loopM (fun s4 => m_slices_Index_string_string_s0 l x s4) 0 = some (match l.findIdx? (fun y => decide (x = y)) with | some i => (Sum.inr (i : Int) : Unit ⊕ Int) | none => Sum.inl ()) := by
  refine loop_idx l (fun y => decide (x = y)) (fun i => Sum.inr i) _ (fun k y hx hlt => ?_) ?_ (by omega) rfl
  ·
   unfold m_slices_Index_string_string_s0
   rw [lss_nat, if_pos (decide_eq_true hlt), atI_nat, hx, Option.bind_some, i64_succ (by omega)]
   cases decide (x = y) <;> rfl
  ·
   unfold m_slices_Index_string_string_s0
   rw [lss_nat, if_neg (by simp)]
 have e : Option.bind (α := Unit ⊕ Int) (loopM (fun s4 => m_slices_Index_string_string_s0 l x s4) 0) (Sum.elim (fun _ => some (-1)) some) = some (idxOf (fun y => decide (x = y)) l) := by
  rw [hl]
  unfold idxOf
  cases l.findIdx? (fun y => decide (x = y)) <;> rfl
 rw [e, Option.bind_some, idxOf_ge, any_mem']
theorem fold_loop {β γ : Type} {step : List Str × Int -> Option ((List Str × Int) ⊕ β)} (l : List γ) (g : List Str -> γ -> List Str) (fin : List Str -> β) (c B : Nat)
  (hlen : ∀ out x, x ∈ l -> (g out x).length <= out.length + c)
  (h : ∀ k out x, l[k]? = some x -> x ∈ l -> k < l.length -> out.length <= B -> step (out, (k : Int)) = some (.inl (g out x, ((k + 1 : Nat) : Int))))
  (hend : ∀ out, step (out, (l.length : Int)) = some (.inr (fin out))) {out : List Str} (hb : out.length + c * l.length <= B) (hl : l.length <= 1048576) : loopM step (out, (0 : Int)) = some (fin (l.foldl g out)) := by
 have := loop_fold (step := step) l (fun (s : List Str) k => (s, (k : Int))) g fin (fun k s => k <= l.length /\ s.length <= out.length + c * k) (fun k s x hx hk hI => ?_) (fun s _ => hend s) (s0 := out) ⟨Nat.zero_le _, by omega⟩ (by omega)
 ·
  exact this
 ·
  have hm := List.mem_of_getElem? hx
  have h1 : c * k <= c * l.length := Nat.mul_le_mul_left c (by omega)
  have h2 := hlen s x hm
  refine ⟨h k s x hx hm hk (by omega), by omega, ?_⟩
  rw [Nat.mul_succ]
  omega
theorem fold_add {γ : Type} (f : γ -> List Str) : ∀ (l : List γ) (out : List Str), l.foldl (fun o x => addAll o (f x)) out = addAll out (l.flatMap f)
 | [], _ => rfl
 |
  x :: l, out => by
  rw [List.foldl_cons, List.flatMap_cons, addAll_app]
  exact fold_add f l _
theorem fold_app {γ : Type} (f : γ -> List Str) : ∀ (l : List γ) (out : List Str), l.foldl (fun o x => o ++ f x) out = out ++ l.flatMap f
 | [], _ => by simp
 |
  x :: l, out => by
  rw [List.foldl_cons, List.flatMap_cons, fold_app f l]
  simp
theorem fold_if {γ : Type} (p : γ -> Bool) (f : List Str -> γ -> List Str) : ∀ (l : List γ) (out : List Str), l.foldl (fun o x => if p x = true then f o x else o) out = (l.filter p).foldl f out
 | [], _ => rfl
 |
  x :: l, out => by
  rw [List.foldl_cons, List.filter_cons]
  cases h : p x with
  | true => rw [if_pos rfl, if_pos rfl, List.foldl_cons]; exact fold_if p f l _
  | false => rw [if_neg (by decide), if_neg (by decide)]; exact fold_if p f l _
theorem add_loop {step : List Str × Int -> Option ((List Str × Int) ⊕ List Str)} (l : List Str)
  (h : ∀ k out x, l[k]? = some x -> x ∈ l -> k < l.length -> out.length <= 1000 -> step (out, (k : Int)) = some (.inl (addU out x, ((k + 1 : Nat) : Int))))
  (hend : ∀ out, step (out, (l.length : Int)) = some (.inr out)) {out : List Str} (hb : out.length + l.length <= 1000) : loopM step (out, (0 : Int)) = some (addAll out l) :=
 fold_loop l addU (fun o => o) 1 1000 (fun out x _ => addU_len out x) h hend (by omega) (by omega)
theorem spec_above_eq {s : Str} (h : validName s = true) : m_spec_above s = some (above s) := if_pos (validName_sho h).mid
theorem full_s1 (l out : List Str) (hb : out.length + l.length <= 1000) : loopM (fun s => m_spec_full_s1 l s) (out, (0 : Int)) = some (addAll out l) := by
 refine add_loop l (fun k out x hx _ hk ho => ?_) (fun out => ?_) hb
 ·
  unfold m_spec_full_s1 addU
  simp only
  rw [lss_nat, if_pos (decide_eq_true hk), atI_nat, hx, Option.bind_some, spec_hasText_eq (by omega), Option.bind_some, i64_succ (by omega)]
  by_cases hm : x ∈ out
  ·
   rw [decide_eq_true hm, if_neg (by decide), if_pos hm]; rfl
  ·
   rw [decide_eq_false hm, if_pos (by decide), Option.bind_some, appO_of (by simp; omega) (by simp; omega), if_neg hm]; rfl
 ·
  unfold m_spec_full_s1
  simp only
  rw [lss_nat, if_neg (by simp)]
theorem reach_s1 (l out : List Str) (hb : out.length + l.length <= 1000) : loopM (fun s => m_spec_reach_s1 l s) (out, (0 : Int)) = some (addAll out l) := by
 rw [← full_s1 l out hb]
 rfl
theorem spec_full_eq {l : List Str} (hv : ∀ x ∈ l, validName x = true) (hl : l.length <= 100) : m_spec_full l = some (uniq (l.flatMap above)) := by
 unfold m_spec_full
 have h : loopM (fun s => m_spec_full_s0 l s) (([] : List Str), (0 : Int)) = some (uniq (l.flatMap above)) := by
  rw [show uniq (l.flatMap above) = l.foldl (fun o x => addAll o (above x)) [] from (fold_add above l []).symm]
  refine fold_loop l (fun o x => addAll o (above x)) (fun o => o) 3 300 (fun out x hx => ?_) (fun k out x hx hm hk ho => ?_) (fun out => ?_) (by simp; omega) (by omega)
  ·
   have h1 := addAll_len (above x) out
   have h2 := above_len3 (hv x hx)
   omega
  ·
   have h2 := above_len3 (hv x hm)
   unfold m_spec_full_s0
   simp only
   rw [lss_nat, if_pos (decide_eq_true hk), atI_nat, hx, Option.bind_some, spec_above_eq (hv x hm), Option.bind_some, full_s1 _ _ (by omega), i64_succ (by omega)]
   rfl
  ·
   unfold m_spec_full_s0
   simp only
   rw [lss_nat, if_neg (by simp)]
 rw [h]
 rfl
theorem validPackage_len' {p : Str} (h : validPackage p = true) : mid p := by have := validPackage_len h; unfold mid; omega
theorem parent_empty : parent emptyS = emptyS := by
 have : (46 : UInt8) ∉ emptyS.l := by decide
 exact (parent_none this).1
theorem parent_pkg {p : Str} (h : validPackage p = true) : validPackage (parent p) = true := by
 unfold validPackage at h
 rw [Bool.or_eq_true, decide_eq_true_eq] at h
 rcases h with h | h
 ·
  rw [h, parent_empty]; rfl
 ·
  exact pre_valid h _
theorem upN_empty : ∀ n, upN n emptyS = emptyS
 | 0 => rfl
 |
  n + 1 => by
  unfold upN
  rw [parent_empty]
  exact upN_empty n
theorem upN_pkg : ∀ n {p : Str}, validPackage p = true -> validPackage (upN n p) = true
 | 0, _, h => h
 | n + 1, _, h => upN_pkg n (parent_pkg h)
theorem spec_base_eq {p : Str} (hp : validPackage p = true) {n : Nat} (hn : n <= 10) : m_spec_base p ((n : Int) + 1) = some (upN n p, decide (upN n p ≠ (⟨[]⟩ : Str))) := by
 have key : ∀ (k i : Nat) (q : Str), validPackage q = true -> i + k = n -> ∃ r, iterM (fun s4 => m_spec_base_s0 ((n : Int) + 1) s4) (k + 1) (q, ((i + 1 : Nat) : Int)) = some r /\ (r = .inl (upN k q) \/ (r = .inr ((⟨[]⟩ : Str), false) /\ upN k q = emptyS)) := by
  intro k
  induction k with
  |
   zero =>
   intro i q hq hi
   refine ⟨.inl q, iterM_inr ?_, .inl rfl⟩
   unfold m_spec_base_s0
   simp only
   rw [show ((n : Int) + 1) = ((n + 1 : Nat) : Int) by omega, lss_nat, if_neg (by simp; omega)]
  |
   succ k ih =>
   intro i q hq hi
   have hlt : cmpI .lss ((i + 1 : Nat) : Int) ((n : Int) + 1) = true := by unfold cmpI; exact decide_eq_true (by omega)
   by_cases he : q = (⟨[]⟩ : Str)
   ·
    refine ⟨.inr ((⟨[]⟩ : Str), false), iterM_inr ?_, .inr ⟨rfl, ?_⟩⟩
    ·
     unfold m_spec_base_s0
     simp only
     rw [if_pos hlt, if_pos (decide_eq_true he)]
    ·
     rw [he]; exact upN_empty _
   ·
    have hs : m_spec_base_s0 ((n : Int) + 1) (q, ((i + 1 : Nat) : Int)) = some (.inl (parent q, ((i + 1 + 1 : Nat) : Int))) := by
     unfold m_spec_base_s0
     simp only
     rw [if_pos hlt, if_neg (by simpa using he), show m_spec_parent q = some (parent q) from if_pos (validPackage_len' hq), Option.bind_some, i64_succ (by omega)]
     rfl
    obtain ⟨r, h1, h2⟩ := ih (i + 1) (parent q) (parent_pkg hq) (by omega)
    exact ⟨r, by rw [iterM_inl hs]; exact h1, h2⟩
 obtain ⟨r, h1, h2⟩ := key n 0 p hp (by omega)
 unfold m_spec_base
 rw [show (1 : Int) = ((0 + 1 : Nat) : Int) from rfl, loopM_of (by simpa using h1) (by omega)]
 rcases h2 with rfl | ⟨rfl, h3⟩
 ·
  rfl
 ·
  rw [h3]; rfl
theorem resolveL_eq {p m : Str} {lv : Int} : resolveL p lv m = if lv = 0 then m else if upN (lv - 1).toNat p = emptyS then emptyS else if m = emptyS then upN (lv - 1).toNat p else child (upN (lv - 1).toNat p) m := by
 unfold resolveL
 by_cases h : lv = 0
 ·
  rw [if_pos h, if_pos (by simp [cmpI, h])]
 ·
  rw [if_neg h, if_neg (by simp [cmpI, h])]
theorem spec_resolve_eq {p m : Str} {lv : Int} (hp : validPackage p = true) (h0 : 0 <= lv) (h1 : lv <= 4) (hm : sho m) : m_spec_resolve p lv m = some (resolveL p lv m) := by
 rw [resolveL_eq]
 unfold m_spec_resolve
 by_cases h : lv = 0
 ·
  rw [if_pos h, if_pos (by simp [cmpI, h])]
 ·
  rw [if_neg h, if_neg (by simp [cmpI, h])]
  obtain ⟨n, hn⟩ : ∃ n : Nat, lv = (n : Int) + 1 := ⟨(lv - 1).toNat, by omega⟩
  have hu := upN_pkg n hp
  rw [show (lv - 1).toNat = n by omega, hn, spec_base_eq hp (by omega), Option.bind_some]
  by_cases he : upN n p = emptyS
  ·
   rw [if_pos he]
   simp only [he]
   rfl
  ·
   rw [if_neg he]
   have he' : decide (upN n p ≠ (⟨[]⟩ : Str)) = true := decide_eq_true he
   simp only [he']
   rw [if_neg (by decide)]
   by_cases hm0 : m = emptyS
   ·
    rw [if_pos hm0, if_pos (decide_eq_true (show m = (⟨[]⟩ : Str) from hm0))]
   ·
    have hlu := validPackage_len hu
    unfold sho at hm
    rw [if_neg hm0, if_neg (by simpa using (show ¬ m = (⟨[]⟩ : Str) from hm0)), show m_spec_child (upN n p) m = some (child (upN n p) m) from if_pos (by omega), Option.bind_some]
theorem validStmt_cases {st : Stmt} (h : validStmt st = true) : ((st.kind = 0 \/ st.kind = 2) /\ validName st.module = true) \/ (st.kind = 1 /\ validPackage st.module = true /\ 0 <= st.level /\ st.level <= 3) \/ (st.kind ≠ 0 /\ st.kind ≠ 1 /\ st.kind ≠ 2) := by
 unfold validStmt at h
 by_cases h0 : st.kind = 0
 ·
  rw [if_pos (by simp [cmpI, h0])] at h
  simp only [Bool.and_eq_true] at h
  exact .inl ⟨.inl h0, h.1.1.1⟩
 ·
  rw [if_neg (by simp [cmpI, h0])] at h
  by_cases h1 : st.kind = 1
  ·
   rw [if_pos (by simp [cmpI, h1])] at h
   simp only [Bool.and_eq_true, inR] at h
   have h2 := h.1.1.1.2
   simp [cmpI] at h2
   exact .inr (.inl ⟨h1, h.1.1.1.1, by omega, by omega⟩)
  ·
   rw [if_neg (by simp [cmpI, h1])] at h
   by_cases h2 : st.kind = 2
   ·
    rw [if_pos (by simp [cmpI, h2])] at h
    simp only [Bool.and_eq_true] at h
    exact .inl ⟨.inr h2, h.1.1.1⟩
   ·
    exact .inr (.inr ⟨h0, h1, h2⟩)
theorem child_len (p s : Str) : (child p s).l.length <= p.l.length + s.l.length + 1 := by
 unfold child
 split
 ·
  omega
 ·
  simp only [List.length_append, List.length_singleton]; omega
theorem stName_sho {p : Str} {st : Stmt} (hp : validPackage p = true) (h : validStmt st = true) : sho (stName p st) := by
 unfold stName sho
 rcases validStmt_cases h with ⟨h1, h2⟩ | ⟨h1, h2, h3, h4⟩ | ⟨h1, h2, h3⟩
 ·
  have := validName_len h2
  rw [if_pos (by rcases h1 with h1 | h1 <;> simp [cmpI, h1])]
  omega
 ·
  rw [if_neg (by simp [cmpI, h1]), if_pos (by simp [cmpI, h1]), resolveL_eq]
  have h5 := validPackage_len h2
  have h6 := validPackage_len (upN_pkg (st.level - 1).toNat hp)
  have h7 := child_len (upN (st.level - 1).toNat p) st.module
  split
  ·
   omega
  ·
   split
   ·
    exact Nat.zero_le _
   ·
    split <;> omega
 ·
  rw [if_neg (by simp [cmpI, h1, h3]), if_neg (by simp [cmpI, h2])]
  exact Nat.zero_le _
theorem spec_needs_loop {p : Str} {f : File} (hp : validPackage p = true) (hb : validBody f.body = true) : loopM (fun s => m_spec_needs_s0 p f s) (([] : List Str), (0 : Int)) = some (uniq (bodyNames p f.body)) := by
 have hlen := validBody_len hb
 have hst : ∀ st ∈ f.body, validStmt st = true := by
  unfold validBody at hb
  rw [Bool.and_eq_true] at hb
  exact fun st h => List.all_eq_true.1 hb.1 st h
 have e : uniq (bodyNames p f.body) = f.body.foldl (fun o st => if validName (stName p st) = true then addU o (stName p st) else o) [] := by
  rw [fold_if (fun st => validName (stName p st)) (fun o st => addU o (stName p st))]
  unfold uniq addAll bodyNames
  rw [List.filter_map, List.foldl_map]
  rfl
 rw [e]
 refine fold_loop f.body _ (fun o => o) 1 1000 (fun out st hm => ?_) (fun k out st hx hm hk ho => ?_) (fun out => ?_) (by simp; omega) (by omega)
 ·
  split
  ·
   exact addU_len _ _
  ·
   omega
 ·
  have hs := hst st hm
  have hsho := stName_sho hp hs
  have hname : ((atI f.body (k : Int)).bind fun v29 => Option.bind (α := Bool) (if (cmpI .eql v29.kind (0 : Int)) = true then (some (cmpI .eql v29.kind (0 : Int))) else (some (cmpI .eql v29.kind (2 : Int)))) fun o32 => if o32 = true then ((atI f.body (k : Int)).bind fun v40 => some v40.module) else (if (cmpI .eql v29.kind (1 : Int)) = true then ((atI f.body (k : Int)).bind fun v46 => (atI f.body (k : Int)).bind fun v47 => (m_spec_resolve p v46.level v47.module).bind fun v48 => some v48) else (some (⟨[]⟩ : Str)))) = some (stName p st) := by
   rw [atI_nat, hx]
   simp only [Option.bind_some]
   unfold stName
   rcases validStmt_cases hs with ⟨h1, h2⟩ | ⟨h1, h2, h3, h4⟩ | ⟨h1, h2, h3⟩
   ·
    rcases h1 with h1 | h1 <;> simp [cmpI, h1]
   ·
    have hm2 : sho st.module := by have := validPackage_len h2; unfold sho; omega
    rw [spec_resolve_eq hp h3 (by omega) hm2]
    simp [cmpI, h1]
   ·
    simp [cmpI, h1, h2, h3]
    rfl
  unfold m_spec_needs_s0
  simp only
  rw [lss_nat, if_pos (decide_eq_true hk), hname, Option.bind_some, show m_spec_validName (stName p st) = some (validName (stName p st)) from if_pos hsho.mid, Option.bind_some, spec_hasText_eq (by omega), i64_succ (by omega)]
  cases validName (stName p st) with
  | false => rfl
  |
   true =>
   rw [show ((true : Bool) == true) = true from rfl, gO_true, Option.bind_some, if_pos rfl]
   unfold addU
   by_cases hmem : stName p st ∈ out
   ·
    rw [decide_eq_true hmem, if_neg (by decide), if_pos hmem]; rfl
   ·
    rw [decide_eq_false hmem, if_pos (by decide), appO_of (by simp; omega) (by simp; omega), if_neg hmem]; rfl
 ·
  unfold m_spec_needs_s0
  simp only
  rw [lss_nat, if_neg (by simp)]
section
variable {t : Tree} {path : List Int}
theorem atI_some {α : Type} {l : List α} {k : Int} {x : α} (h0 : cmpI .lss k 0 = false) (h : l[k.toNat]? = some x) : atI l k = some x := by
 have hk : 0 <= k := by
  have := of_decide_eq_false h0
  omega
 unfold atI
 rw [if_pos hk]
 exact h
theorem pkgOf_valid {n : Str} (hn : validName n = true) (s : Spec) : validPackage (pkgOf n s) = true := by
 have h : validPackage n = true := by unfold validPackage; rw [hn, Bool.or_true]
 unfold pkgOf
 split
 ·
  exact parent_pkg h
 ·
  exact h
theorem spec_needsOf_eq (hv : validTree t = true) (hp : path.length <= 1048576) {n : Str} (hn : validName n = true) : m_spec_needsOf t path n = some (needsOf t.files path n) := by
 unfold m_spec_needsOf
 rw [show m_spec_find t path n = some (find t.files path n) from if_pos ⟨by omega, (validName_sho hn).mid⟩, Option.bind_some]
 unfold m_spec_needs needsOf needsL
 cases hf : cmpI .lss (find t.files path n).file 0 with
 | true => rfl
 |
  false =>
  obtain ⟨f, h1, h2, _, h4⟩ := find_gfile hv hn hf
  have hpk := pkgOf_valid hn (find t.files path n)
  have hl := spec_needs_loop hpk (validTree_body hv h2)
  have hk : (Option.bind (α := Str) (if (cmpI .eql (find t.files path n).kind (1 : Int)) = true then ((m_spec_parent n).bind fun v12 => some v12) else (some n)) fun o8 => (atI t.files (find t.files path n).file).bind fun v16 => Option.bind (α := (List Str)) (loopM (fun s21 => m_spec_needs_s0 o8 v16 s21) ([], (0 : Int))) fun o19 => some o19) = some (uniq (bodyNames (pkgOf n (find t.files path n)) f.body)) := by
   rw [show (if (cmpI .eql (find t.files path n).kind (1 : Int)) = true then ((m_spec_parent n).bind fun v12 => some v12) else (some n)) = some (pkgOf n (find t.files path n)) by
    unfold pkgOf
    cases cmpI .eql (find t.files path n).kind (1 : Int) with
    | false => rfl
    | true => rw [if_pos rfl, if_pos rfl, show m_spec_parent n = some (parent n) from if_pos (validName_sho hn).mid]; rfl, Option.bind_some, atI_some hf h1, Option.bind_some, hl, Option.bind_some]
  simp only [Bool.false_eq_true, if_false]
  rw [fileOf_some h1, hk]
  rfl
theorem spec_edges_eq (hv : validTree t = true) (hp : path.length <= 1048576) {n : Str} (hn : validName n = true) : m_spec_edges t path n = some (edgesOf t.files path n) := by
 unfold m_spec_edges
 have h1 := needsOf_len hv (path := path) hn
 rw [spec_needsOf_eq hv hp hn, Option.bind_some, spec_full_eq (fun _ h => needsOf_valid h) (by omega), Option.bind_some]
 rfl
theorem spec_reach_eq (hv : validTree t = true) (hp : path.length <= 1048576) {s : Str} (hs : validName s = true) {l : List Str} (hn : l.Nodup) (hl : ∀ x ∈ l, x ∈ worldOf t.files s) : m_spec_reach t path l = some (reachOf t.files path s l) := by
 have hw := worldOf_len hv hs
 have hll := nodupLen hn hl
 unfold m_spec_reach
 rw [appO_of (by simp; omega) (by simp; omega), Option.bind_some, List.nil_append]
 have h : loopM (fun s10 => m_spec_reach_s0 t path s10) (l, (0 : Int)) = some (reachOf t.files path s l) := by
  refine loop_grow (fun (o : List Str) k => (o, (k : Int))) (edgesOf t.files path) (worldOf t.files s) (world_closed hv hs) (fun o => o) (fun k out x hx ho hs' => ?_) (fun out ho hs' => ?_) hn hl (by omega) rfl
  ·
   have hxv := worldOf_valid hs (hs' x (List.mem_of_getElem? hx))
   have hk := (List.getElem?_eq_some_iff.1 hx).1
   have hol := nodupLen ho hs'
   have hel := edgesOf_len hv (path := path) hxv
   unfold m_spec_reach_s0
   simp only
   rw [lss_nat, if_pos (decide_eq_true hk), atI_nat, hx, Option.bind_some, spec_edges_eq hv hp hxv, Option.bind_some, reach_s1 _ _ (by omega), i64_succ (by omega)]
   rfl
  ·
   unfold m_spec_reach_s0
   simp only
   rw [lss_nat, if_neg (by simp)]
 rw [h]
 rfl
theorem spec_reachA_eq (hv : validTree t = true) (hp : path.length <= 1048576) {s : Str} (hs : validName s = true) : m_spec_reach t path (above s) = some (reachA t path s) :=
 spec_reach_eq hv hp hs (above_nodup hs) fun _ h => above_world h
theorem okG_cases (t : Tree) (path : List Int) (s : Str) {α : Type} [Inhabited α] {b : α} {K : Option α} (ht : smTree t) (hn : sho s) {r : α} (h0 : okG t path s = false -> r = b) (h1 : okG t path s = true -> K = some r) : ((m_spec_validTree t).bind fun v2 => (gO ((!v2) == false) (m_spec_validPath path)).bind fun v3 => (gO (((!v2) || (!v3)) == false) (m_spec_validName s)).bind fun v4 => if (((!v2) || (!v3)) || (!v4)) = true then (some b) else K) = some r := by
 rw [show m_spec_validTree t = some (validTree t) from if_pos ht, Option.bind_some, show m_spec_validPath path = some (validPath path) from if_pos trivial, show m_spec_validName s = some (validName s) from if_pos hn.mid]
 cases hv : validTree t with
 | false => rw [h0 (by unfold okG; rw [hv]; rfl)]; rfl
 |
  true =>
  cases hp : validPath path with
  | false => rw [h0 (by unfold okG; rw [hv, hp]; rfl)]; rfl
  |
   true =>
   cases hs : validName s with
   | false => rw [h0 (by unfold okG; rw [hv, hp, hs]; rfl)]; rfl
   | true => exact h1 (by unfold okG; rw [hv, hp, hs]; rfl)
theorem ins_loop {step : List Str × Int -> Option ((List Str × Int) ⊕ List Str)} (l : List Str) (p : Str -> Bool) (hl : l.length <= 1000)
  (h : ∀ k out x, l[k]? = some x -> x ∈ l -> k < l.length -> out.length <= 1000 -> step (out, (k : Int)) = some (.inl (if p x = true then insertT out x else out, ((k + 1 : Nat) : Int))))
  (hend : ∀ out, step (out, (l.length : Int)) = some (.inr out)) : loopM step (([] : List Str), (0 : Int)) = some ((l.filter p).foldl insertT []) := by
 rw [← fold_if p insertT l []]
 refine fold_loop l (fun o x => if p x = true then insertT o x else o) (fun o => o) 1 1000 (fun out x _ => ?_) h hend (by simp; omega) (by omega)
 show (if p x = true then insertT out x else out).length <= out.length + 1
 split
 ·
  have := insertAll_len [x] out
  simpa using this
 ·
  omega
theorem spec_ins_eq {out : List Str} {x : Str} (h : out.length <= 1000) : m_spec_insertText out x = some (insertT out x) := if_pos (by omega)
variable {s : Str}
theorem spec_MissingOf_eq (ht : smTree t) (hp : path.length <= 1048576) (hn : sho s) : m_spec_MissingOf t path s = some (missingL t path s) := by
 unfold m_spec_MissingOf
 refine okG_cases t path s ht hn (fun h => by unfold missingL reachL; rw [h]; rfl) fun h => ?_
 obtain ⟨hv, _, hs⟩ := okG_spec h
 have hlen := reachA_len hv (path := path) hs
 have hl : loopM (fun s20 => m_spec_MissingOf_s0 t path (reachA t path s) s20) (([] : List Str), (0 : Int)) = some (missingL t path s) := by
  unfold missingL
  rw [← gather_eq h]
  refine ins_loop (reachA t path s) (missing t path) (by omega) (fun k out x hx hm hk ho => ?_) (fun out => ?_)
  ·
   have hxv := reachA_valid hv hs hm
   unfold m_spec_MissingOf_s0
   simp only
   rw [lss_nat, if_pos (decide_eq_true hk), atI_nat, hx, Option.bind_some, show m_spec_find t path x = some (find t.files path x) from if_pos ⟨by omega, (validName_sho hxv).mid⟩, Option.bind_some, i64_succ (by omega), show cmpI .eql (find t.files path x).kind 0 = missing t path x from rfl]
   cases missing t path x with
   | false => rfl
   | true => rw [if_pos rfl, if_pos rfl, Option.bind_some, spec_ins_eq ho]; rfl
  ·
   unfold m_spec_MissingOf_s0
   simp only
   rw [lss_nat, if_neg (by simp)]
 rw [spec_above_eq hs, Option.bind_some, spec_reachA_eq hv hp hs, Option.bind_some, hl]
 rfl
end
end Go.Proofs.YtbnibckkfknpkaaGreatDoor
namespace Go.Proofs.YtbnibckkfknpkaaGreatDoor
open Go.RowKit
theorem unique_eq {l : List Str} (h : l.length <= 1000) : m_impl_unique l = some (uniq l) := by
 unfold m_impl_unique
 have hl : loopM (fun s5 => m_impl_unique_s0 l s5) (([] : List Str), (0 : Int)) = some (uniq l) := by
  refine add_loop l (fun k out x hx _ hk ho => ?_) (fun out => ?_) (by simpa using h)
  ·
   unfold m_impl_unique_s0 addU
   simp only
   rw [lss_nat, if_pos (decide_eq_true hk), atI_nat, hx, Option.bind_some, ContainsS_eq (by omega), Option.bind_some, i64_succ (by omega)]
   by_cases hm : x ∈ out
   ·
    rw [decide_eq_true hm, if_neg (by decide), if_pos hm]; rfl
   ·
    rw [decide_eq_false hm, if_pos (by decide), appO_of (by simp; omega) (by simp; omega), if_neg hm]; rfl
  ·
   unfold m_impl_unique_s0
   simp only
   rw [lss_nat, if_neg (by simp)]
 rw [hl]
 rfl
def orE (s : Str) : Str := if validName s = true then s else emptyS
theorem ParentOf_any {p : Str} (h : validPackage p = true) : m_impl_ParentOf p = some (parent p) := by
 unfold validPackage at h
 rw [Bool.or_eq_true, decide_eq_true_eq] at h
 rcases h with h | h
 ·
  rw [h, parent_empty]
  unfold m_impl_ParentOf
  rcases lastByte emptyS 46 (by decide) with ⟨pre, post, e1, _, _⟩ | ⟨_, e3⟩
  ·
   have := congrArg List.length e1
   simp [emptyS] at this
  ·
   rw [show m_strings_LastIndexByte emptyS (UInt8.ofNat 46) = some (-1) from e3, Option.bind_some, ValidName_eq (show sho emptyS from Nat.zero_le _), Option.bind_some]
   rfl
 ·
  exact ParentOf_eq h
theorem resolve_loop {p : Str} (hp : validPackage p = true) {n : Nat} (hn : n <= 10) : loopM (fun s17 => m_impl_ResolveName_s0 s17) (p, (n : Int) + 1) = some (upN n p) := by
 have key : ∀ (k : Nat) (q : Str), k <= 10 -> validPackage q = true -> iterM (fun s17 => m_impl_ResolveName_s0 s17) (k + 1) (q, ((k : Int) + 1)) = some (upN k q) := by
  intro k
  induction k with
  |
   zero =>
   intro q _ hq
   refine iterM_inr ?_
   unfold m_impl_ResolveName_s0
   rw [if_neg (by simp [cmpI])]
   rfl
  |
   succ k ih =>
   intro q hk hq
   have hgt : cmpI .gtr (((k + 1 : Nat) : Int) + 1) 1 = true := by unfold cmpI; exact decide_eq_true (by omega)
   by_cases he : q = (⟨[]⟩ : Str)
   ·
    refine iterM_inr ?_
    unfold m_impl_ResolveName_s0
    simp only
    rw [he, if_neg (by simp), show upN (k + 1) (⟨[]⟩ : Str) = emptyS from upN_empty _]
    rfl
   ·
    have hs : m_impl_ResolveName_s0 (q, (((k + 1 : Nat) : Int) + 1)) = some (.inl (parent q, ((k : Int) + 1))) := by
     unfold m_impl_ResolveName_s0
     simp only
     rw [hgt, if_pos (by simpa using he), ParentOf_any hq, Option.bind_some, show (((k + 1 : Nat) : Int) + 1 - 1) = ((k : Int) + 1) by omega, i64_of (by omega) (by omega)]
     rfl
    rw [iterM_inl hs]
    exact ih (parent q) (by omega) (parent_pkg hq)
 exact loopM_of (key n p hn hp) (by omega)
theorem pkg_sho {p : Str} (h : validPackage p = true) : sho p := by have := validPackage_len h; unfold sho; omega
theorem ResolveName_eq {p m : Str} {lv : Int} (hp : validPackage p = true) (hm : validPackage m = true) (h0 : 0 <= lv) (h1 : lv <= 3) : m_impl_ResolveName p lv m = some (orE (resolveL p lv m)) := by
 rw [resolveL_eq]
 unfold m_impl_ResolveName
 have hw : m_impl_within lv 0 4 = some true := by
  unfold m_impl_within cmpI
  simp only [ge_iff_le]
  rw [decide_eq_true h0, decide_eq_true (show lv <= 4 by omega)]
  rfl
 rw [packageOk_eq (pkg_sho hp), Option.bind_some, packageOk_eq (pkg_sho hm), hw, hp, hm]
 simp only [Bool.not_true, beq_self_eq_true, gO_true, Option.bind_some, Bool.or_self, Bool.false_eq_true, if_false]
 unfold orE
 by_cases h : lv = 0
 ·
  rw [if_pos h, if_pos (by simp [cmpI, h])]
  unfold validPackage at hm
  rw [Bool.or_eq_true, decide_eq_true_eq] at hm
  rcases hm with hm | hm
  ·
   rw [hm, validName_empty]; rfl
  ·
   rw [if_pos hm]
 ·
  rw [if_neg h, if_neg (by simp [cmpI, h])]
  obtain ⟨n, hn⟩ : ∃ n : Nat, lv = (n : Int) + 1 := ⟨(lv - 1).toNat, by omega⟩
  have hu := upN_pkg n hp
  have hul := validPackage_len hu
  have hml := validPackage_len hm
  rw [show (lv - 1).toNat = n by omega, hn, resolve_loop hp (by omega), Option.bind_some]
  by_cases he : upN n p = emptyS
  ·
   rw [if_pos he, if_pos (decide_eq_true (show upN n p = (⟨[]⟩ : Str) from he)), validName_empty]; rfl
  ·
   rw [if_neg he, if_neg (by simpa using (show ¬ upN n p = (⟨[]⟩ : Str) from he))]
   have hend : ∀ q : Str, sho q -> ((m_impl_ValidName q).bind fun v44 => if (!v44) = true then (some (⟨[]⟩ : Str)) else (some q)) = some (if validName q = true then q else emptyS) := fun q hq => by
    rw [ValidName_eq hq, Option.bind_some]
    cases validName q <;> rfl
   by_cases hm0 : m = emptyS
   ·
    rw [if_pos hm0, if_neg (by simpa using (show m = (⟨[]⟩ : Str) from hm0)), Option.bind_some]
    exact hend _ (pkg_sho hu)
   ·
    rw [if_neg hm0, if_pos (by simpa using (show ¬ m = (⟨[]⟩ : Str) from hm0)), catO_of (by simp; omega), Option.bind_some, catO_of (by simp; omega), Option.bind_some, Option.bind_some]
    have e : (⟨(upN n p).l ++ ([46] ++ m.l)⟩ : Str) = child (upN n p) m := by
     unfold child
     rw [if_neg he]
     simp
    simp only [e]
    refine hend _ ?_
    have := child_len (upN n p) m
    unfold sho
    omega
theorem packageOf_eq {n : Str} (hn : validName n = true) (s : Spec) : m_impl_Module_packageOf (⟨n, s.kind, [], false, false, []⟩ : GMod) = some (pkgOf n s) := by
 unfold m_impl_Module_packageOf pkgOf
 simp only
 cases cmpI .eql s.kind 1 with
 | false => rfl
 | true => rw [if_pos rfl, if_pos rfl, ParentOf_eq hn]; rfl
theorem bodyNames_next {p : Str} {b : List Stmt} {k : Nat} {st : Stmt} (hx : b[k]? = some st) : bodyNames p (b.take (k + 1)) = bodyNames p (b.take k) ++ (if validName (stName p st) = true then [stName p st] else []) := by
 unfold bodyNames
 rw [List.take_add_one, hx, Option.toList_some, List.map_append, List.filter_append, List.map_singleton, List.filter_cons, List.filter_nil]
theorem needs_loop {n : Str} (hn : validName n = true) {sp : Spec} {f : File} (hb : validBody f.body = true) : loopM (fun s25 => m_impl_NeedsOf_s0 n sp f s25) (([] : List Str), (0 : Int)) = some (bodyNames (pkgOf n sp) f.body) := by
 have hp := pkgOf_valid hn sp
 have hlen := validBody_len hb
 have hst : ∀ st ∈ f.body, validStmt st = true := by
  unfold validBody at hb
  rw [Bool.and_eq_true] at hb
  exact fun st h => List.all_eq_true.1 hb.1 st h
 refine loop_upto (b := bodyNames (pkgOf n sp) f.body) f.body.length (fun k => (bodyNames (pkgOf n sp) (f.body.take k), (k : Int))) (fun k hk => ?_) ?_ (by omega) rfl
 ·
  obtain ⟨st, hx, hm⟩ := get_some hk
  have hs := hst st hm
  have hol := bodyNames_len (pkgOf n sp) (f.body.take k)
  rw [List.length_take] at hol
  unfold m_impl_NeedsOf_s0
  simp only
  rw [lss_nat, if_pos (decide_eq_true hk), atI_nat, hx, Option.bind_some, i64_succ (by omega), bodyNames_next hx, packageOf_eq hn]
  generalize bodyNames (pkgOf n sp) (f.body.take k) = out at hol ⊢
  have ha : ∀ x : Str, appO 16 out [x] = some (out ++ [x]) := fun x => appO_of (by simp; omega) (by simp; omega)
  unfold stName
  rcases validStmt_cases hs with ⟨h1, h2⟩ | ⟨h1, h2, h3, h4⟩ | ⟨h1, h2, h3⟩
  ·
   rcases h1 with h1 | h1
   ·
    simp [cmpI, h1, h2, ha]
   ·
    simp [cmpI, h1, h2, ha]
  ·
   rw [Option.bind_some, ResolveName_eq hp h2 h3 h4, Option.bind_some]
   generalize resolveL (pkgOf n sp) st.level st.module = q
   unfold orE
   by_cases hq : validName q = true
   ·
    have hne : q ≠ emptyS := by intro e; rw [e, validName_empty] at hq; cases hq
    have hne' : ¬ q = (⟨[]⟩ : Str) := hne
    simp [cmpI, h1, hq, hne', ha]
   ·
    have he : decide (emptyS ≠ (⟨[]⟩ : Str)) = false := by decide
    simp [cmpI, h1, hq, he]
  ·
   simp [cmpI, h1, h2, h3, validName_empty]
 ·
  unfold m_impl_NeedsOf_s0
  simp only
  rw [lss_nat, if_neg (by simp), List.take_length]
section
variable {t : Tree} {path : List Int}
theorem FindSpec_ok (ht : smTree t) (hp : path.length <= 1048576) {n : Str} (hn : sho n) (h : okG t path n = true) : m_impl_FindSpec t path n = some (find t.files path n) := by
 rw [FindSpec_eq ht hp hn]
 unfold findOf
 rw [if_pos (by unfold okG at h; exact h)]
theorem FindSpec_bad (ht : smTree t) (hp : path.length <= 1048576) {n : Str} (hn : sho n) (h : okG t path n = false) : m_impl_FindSpec t path n = some noSpec := by
 rw [FindSpec_eq ht hp hn]
 unfold findOf
 rw [if_neg (by unfold okG at h; rw [h]; decide)]
theorem NeedsOf_eq (ht : smTree t) (hp : path.length <= 1048576) {n : Str} (hn : sho n) : m_impl_NeedsOf t path n = some (if okG t path n = true then needsOf t.files path n else []) := by
 unfold m_impl_NeedsOf
 cases hok : okG t path n with
 |
  false =>
  rw [FindSpec_bad ht hp hn hok, Option.bind_some, if_pos (by decide), if_neg (by decide)]
 |
  true =>
  obtain ⟨hv, _, hnv⟩ := okG_spec hok
  rw [FindSpec_ok ht hp hn hok, Option.bind_some, if_pos rfl]
  unfold needsOf needsL
  cases hf : cmpI .lss (find t.files path n).file 0 with
  | true => rfl
  |
   false =>
   obtain ⟨f, h1, h2, _, h4⟩ := find_gfile hv hnv hf
   have hb := validTree_body hv h2
   have hl := needs_loop hnv (sp := find t.files path n) hb
   have hbl := bodyNames_len (pkgOf n (find t.files path n)) f.body
   have hfl := validBody_len hb
   simp only [Bool.false_eq_true, if_false]
   rw [atI_some hf h1, Option.bind_some, hl, Option.bind_some, unique_eq (by omega), Option.bind_some, fileOf_some h1]
def edgesG (t : Tree) (path : List Int) (n : Str) : List Str := if okG t path n = true then edgesOf t.files path n else []
theorem NamesAbove_ok {s : Str} (h : validName s = true) : m_impl_NamesAbove s = some (above s) := by
 rw [NamesAbove_eq (validName_sho h), if_pos h]
theorem edges_loop {l : List Str} (hv : ∀ x ∈ l, validName x = true) (hl : l.length <= 100) : loopM (fun s7 => m_impl_EdgesOf_s0 l s7) (([] : List Str), (0 : Int)) = some (l.flatMap above) := by
 have e := fold_app above l []
 rw [List.nil_append] at e
 rw [← e]
 refine fold_loop l (fun o x => o ++ above x) (fun o => o) 3 300 (fun out x hx => ?_) (fun k out x hx hm hk ho => ?_) (fun out => ?_) (by simp; omega) (by omega)
 ·
  have h2 := above_len3 (hv x hx)
  simp only [List.length_append]
  omega
 ·
  have h2 := above_len3 (hv x hm)
  unfold m_impl_EdgesOf_s0
  simp only
  rw [lss_nat, if_pos (decide_eq_true hk), atI_nat, hx, Option.bind_some, NamesAbove_ok (hv x hm), Option.bind_some, appO_of (by omega) (by omega), i64_succ (by omega)]
  rfl
 ·
  unfold m_impl_EdgesOf_s0
  simp only
  rw [lss_nat, if_neg (by simp)]
theorem EdgesOf_eq (ht : smTree t) (hp : path.length <= 1048576) {n : Str} (hn : sho n) : m_impl_EdgesOf t path n = some (edgesG t path n) := by
 unfold m_impl_EdgesOf edgesG
 rw [NeedsOf_eq ht hp hn, Option.bind_some]
 cases hok : okG t path n with
 | false => rw [if_neg (by decide), if_neg (by decide), edges_loop (fun _ h => by cases h) (Nat.zero_le _), Option.bind_some, List.flatMap_nil, unique_eq (Nat.zero_le _)]; rfl
 |
  true =>
  obtain ⟨hv, _, hnv⟩ := okG_spec hok
  have h1 := needsOf_len hv (path := path) hnv
  have h2 := above_flat_len (needsOf t.files path n) fun _ hy => needsOf_valid hy
  rw [if_pos rfl, if_pos rfl, edges_loop (fun _ h => needsOf_valid h) (by omega), Option.bind_some, unique_eq (by omega), Option.bind_some]
  rfl
theorem okG_name {s n : Str} (h : okG t path s = true) (hn : validName n = true) : okG t path n = true := by
 obtain ⟨h1, h2, _⟩ := okG_spec h
 unfold okG
 rw [h1, h2, hn]
 rfl
theorem EdgesOf_ok (ht : smTree t) (hp : path.length <= 1048576) {s n : Str} (h : okG t path s = true) (hn : validName n = true) : m_impl_EdgesOf t path n = some (edgesOf t.files path n) := by
 rw [EdgesOf_eq ht hp (validName_sho hn)]
 unfold edgesG
 rw [if_pos (okG_name h hn)]
theorem reach_eq (_ht : smTree t) {s : Str} (h : okG t path s = true) {f : Str -> Option (List Str)} (hf : ∀ x, validName x = true -> f x = some (edgesOf t.files path x)) {l : List Str} (hn : l.Nodup) (hl : ∀ x ∈ l, x ∈ worldOf t.files s) : m_impl_reach l f = some (reachOf t.files path s l) := by
 obtain ⟨hv, _, hs⟩ := okG_spec h
 have hw := worldOf_len hv hs
 have hll := nodupLen hn hl
 unfold m_impl_reach
 rw [unique_eq (by omega), show uniq l = l from addAll_nil hn, Option.bind_some]
 have h : loopM (fun s10 => m_impl_reach_s0 f s10) (l, (0 : Int)) = some (reachOf t.files path s l) := by
  refine loop_grow (fun (o : List Str) k => (o, (k : Int))) (edgesOf t.files path) (worldOf t.files s) (world_closed hv hs) (fun o => o) (fun k out x hx ho hs' => ?_) (fun out ho hs' => ?_) hn hl (by omega) rfl
  ·
   have hxv := worldOf_valid hs (hs' x (List.mem_of_getElem? hx))
   have hk := (List.getElem?_eq_some_iff.1 hx).1
   have hol := nodupLen ho hs'
   have hel := edgesOf_len hv (path := path) hxv
   unfold m_impl_reach_s0
   simp only
   rw [lss_nat, if_pos (decide_eq_true hk), atI_nat, hx, Option.bind_some, hf x hxv, Option.bind_some, appO_of (by omega) (by omega), Option.bind_some, unique_eq (by rw [List.length_append]; omega), Option.bind_some, uniq_app ho, i64_succ (by omega)]
   rfl
  ·
   unfold m_impl_reach_s0
   simp only
   rw [lss_nat, if_neg (by simp)]
 rw [h]
 rfl
theorem graphOk_eq (ht : smTree t) (hp : path.length <= 1048576) {n : Str} (hn : sho n) : m_impl_graphOk t path n = some (okG t path n) := by
 unfold m_impl_graphOk okG
 rw [ValidTree_eq ht, Option.bind_some, ValidPath_eq hp, ValidName_eq hn]
 cases validTree t with
 | false => rfl
 | true => cases validPath path <;> rfl
variable {s : Str}
theorem ReachOf_eq (ht : smTree t) (hp : path.length <= 1048576) (hn : sho s) : m_impl_ReachOf t path s = some (reachL t path s) := by
 unfold m_impl_ReachOf
 rw [graphOk_eq ht hp hn, Option.bind_some]
 cases hok : okG t path s with
 | false => unfold reachL; rw [hok]; rfl
 |
  true =>
  obtain ⟨hv, _, hs⟩ := okG_spec hok
  have hlen := reachA_len hv (path := path) hs
  rw [if_neg (by decide), NamesAbove_ok hs, Option.bind_some, reach_eq (s := s) ht hok (fun x hx => ?_) (above_nodup hs) (fun _ h => above_world h), Option.bind_some, show reachOf t.files path s (above s) = reachA t path s from rfl, sorted_eq (Nat.le_trans hlen (by decide)), Option.bind_some]
  ·
   unfold reachL
   rw [if_pos hok]
  ·
   unfold m_impl_ReachOf_1
   rw [EdgesOf_ok ht hp hok hx]
   rfl
theorem keep_loop {step : List Str × Int -> Option ((List Str × Int) ⊕ List Str)} (l : List Str) (p : Str -> Bool) (hl : l.length <= 1000)
  (h : ∀ k out x, l[k]? = some x -> x ∈ l -> k < l.length -> out.length <= 1000 -> step (out, (k : Int)) = some (.inl (if p x = true then out ++ [x] else out, ((k + 1 : Nat) : Int))))
  (hend : ∀ out, step (out, (l.length : Int)) = some (.inr out)) : loopM step (([] : List Str), (0 : Int)) = some (l.filter p) := by
 have e : l.filter p = l.foldl (fun o x => if p x = true then o ++ [x] else o) [] := by
  rw [fold_if p (fun o x => o ++ [x]) l [], fold_app (fun x => [x])]
  simp
 rw [e]
 refine fold_loop l (fun o x => if p x = true then o ++ [x] else o) (fun o => o) 1 1000 (fun out x _ => ?_) h hend (by simp; omega) (by omega)
 show (if p x = true then out ++ [x] else out).length <= out.length + 1
 split
 ·
  simp
 ·
  omega
theorem MissingOf_eq (ht : smTree t) (hp : path.length <= 1048576) (hn : sho s) : m_impl_MissingOf t path s = some (missingL t path s) := by
 have hlen := reachL_len (t := t) (path := path) (s := s)
 unfold m_impl_MissingOf
 rw [ReachOf_eq ht hp hn, Option.bind_some]
 have hl : loopM (fun s7 => m_impl_MissingOf_s0 t path (reachL t path s) s7) (([] : List Str), (0 : Int)) = some (missingL t path s) := by
  refine keep_loop (reachL t path s) (missing t path) (by omega) (fun k out x hx hm hk ho => ?_) (fun out => ?_)
  ·
   obtain ⟨hxv, hok⟩ := reachL_valid hm
   unfold m_impl_MissingOf_s0
   simp only
   rw [lss_nat, if_pos (decide_eq_true hk), atI_nat, hx, Option.bind_some, CanFind_eq ht hp (validName_sho hxv), Option.bind_some, i64_succ (by omega), show (!cmpI .neq (findOf t path x).kind 0) = missing t path x by
    unfold findOf missing
    rw [if_pos (by have := okG_name hok hxv; unfold okG at this; exact this)]
    show (!!((find t.files path x).kind == 0)) = _
    rw [Bool.not_not]
    rfl]
   cases missing t path x with
   | false => rfl
   | true => rw [if_pos rfl, if_pos rfl, appO_of (by simp; omega) (by simp; omega)]; rfl
  ·
   unfold m_impl_MissingOf_s0
   simp only
   rw [lss_nat, if_neg (by simp)]
 rw [hl]
 rfl
theorem reachL_size (t : Tree) (path : List Int) (s : Str) : (reachL t path s).length <= 1000 := Nat.le_trans reachL_len (by decide)
theorem missingL_size (t : Tree) (path : List Int) (s : Str) : (missingL t path s).length <= 1000 := Nat.le_trans (List.length_filter_le _ _) (reachL_size t path s)
end
end Go.Proofs.YtbnibckkfknpkaaGreatDoor
namespace Go.Proofs.YtbnibckkfknpkaaGreatDoor
open Go.RowKit
theorem equalTexts_eq {x y : List Str} (h : x.length <= 288230376151711744) : m_laws_equalTexts x y = some (decide (x = y)) := by
 unfold m_laws_equalTexts
 refine eqS_list (fun k hk hk2 => ?_) ?_ (by omega)
 ·
  unfold m_laws_equalTexts_s0
  simp only [lss_at hk, if_true, atI_at hk, atI_at hk2, Option.bind_some, i64_succ (show k < 4611686018427387904 by omega)]
  by_cases e : x[k] = y[k] <;> simp [e]
 ·
  unfold m_laws_equalTexts_s0
  rw [lss_end]; rfl
theorem laws_hasText_eq {l : List Str} {x : Str} (h : l.length <= 1048576) : m_laws_hasText l x = some (l.any fun y => decide (y = x)) := by
 unfold m_laws_hasText m_laws_textAt
 have hl : loopM (fun s4 => m_laws_textAt_s0 l x s4) 0 = some (match l.findIdx? (fun y => decide (y = x)) with | some i => (Sum.inr (i : Int) : Unit ⊕ Int) | none => Sum.inl ()) := by
  refine loop_idx l (fun y => decide (y = x)) (fun i => Sum.inr i) _ (fun k y hx hlt => ?_) ?_ (by omega) rfl
  ·
   unfold m_laws_textAt_s0
   rw [lss_nat, if_pos (decide_eq_true hlt), atI_nat, hx, Option.bind_some, i64_succ (by omega)]
   cases decide (y = x) <;> rfl
  ·
   unfold m_laws_textAt_s0
   rw [lss_nat, if_neg (by simp)]
 have e : Option.bind (α := Unit ⊕ Int) (loopM (fun s4 => m_laws_textAt_s0 l x s4) 0) (Sum.elim (fun _ => some (-1)) some) = some (idxOf (fun y => decide (y = x)) l) := by
  rw [hl]
  unfold idxOf
  cases l.findIdx? (fun y => decide (y = x)) <;> rfl
 rw [e, Option.bind_some, idxOf_ge]
theorem rises_eq {l : List Str} (ha : Asc l) (h : l.length <= 1048576) : m_laws_rises l = some true := by
 unfold m_laws_rises
 have hl : loopM (fun s4 => m_laws_rises_s0 l s4) (1 : Int) = some (.inl ()) := by
  refine loop_upto (l.length - 1) (fun k => ((k + 1 : Nat) : Int)) (fun k hk => ?_) ?_ (by omega) rfl
  ·
   unfold m_laws_rises_s0
   have h1 : l[k + 1]? = some l[k + 1] := List.getElem?_eq_getElem (by omega)
   have h2 : l[k]? = some l[k] := List.getElem?_eq_getElem (by omega)
   have h3 : l[k].l < l[k + 1].l := List.pairwise_iff_getElem.1 ha k (k + 1) (by omega) (by omega) (by omega)
   rw [lss_nat, if_pos (decide_eq_true (by omega)), atI_nat, h1, Option.bind_some, show ((k + 1 : Nat) : Int) - 1 = (k : Int) by omega, i64_of (by omega) (by omega), Option.bind_some, atI_nat, h2, Option.bind_some, if_neg, i64_succ (by omega)]
   ·
    rfl
   ·
    intro hc
    have h4 := gtr_lt (x := l[k + 1]) (y := l[k])
    rw [show cmpS .gtr l[k + 1] l[k] = !cmpS .leq l[k + 1] l[k] from rfl, hc, decide_eq_true h3] at h4
    cases h4
  ·
   unfold m_laws_rises_s0
   rw [lss_nat, if_neg (by simp; omega)]
 rw [hl]
 rfl
end Go.Proofs.YtbnibckkfknpkaaGreatDoor
namespace Go.Proofs.YtbnibckkfknpkaaGreatDoor
open Go.RowKit
theorem laws_hasText_mem {l : List Str} {x : Str} (h : l.length <= 1048576) : m_laws_hasText l x = some (decide (x ∈ l)) := by
 rw [laws_hasText_eq h, any_mem]
theorem withinTexts_eq {a b : List Str} (ha : a.length <= 1048576) (hb : b.length <= 1048576) : m_laws_withinTexts a b = some (a.all fun x => decide (x ∈ b)) := by
 unfold m_laws_withinTexts
 have hl : loopM (fun s4 => m_laws_withinTexts_s0 a b s4) 0 = some (if a.any (fun x => !decide (x ∈ b)) = true then .inr false else .inl ()) := by
  refine loop_any a _ _ _ (fun k x hx hlt => ?_) ?_ (by omega) rfl
  ·
   unfold m_laws_withinTexts_s0
   rw [lss_nat, if_pos (decide_eq_true hlt), atI_nat, hx, Option.bind_some, laws_hasText_mem hb, Option.bind_some, i64_succ (by omega)]
   cases decide (x ∈ b) <;> rfl
  ·
   unfold m_laws_withinTexts_s0
   rw [lss_nat, if_neg (by simp)]
 rw [hl, any_not]
 cases a.all (fun x => decide (x ∈ b)) <;> rfl
theorem within_all {a b : List Str} (ha : a.length <= 1048576) (hb : b.length <= 1048576) (h : ∀ x ∈ a, x ∈ b) : m_laws_withinTexts a b = some true := by
 rw [withinTexts_eq ha hb]
 congr 1
 rw [List.all_eq_true]
 exact fun x hx => decide_eq_true (h x hx)
end Go.Proofs.YtbnibckkfknpkaaGreatDoor
namespace Go.Proofs.YtbnibckkfknpkaaGreatDoor
open Go.RowKit
theorem law_MissingOf' (c : List UInt8) : m_laws_FnMissingOf c = some true := by
 unfold m_laws_FnMissingOf
 cases cmpI .gtr (c.length : Int) 1048576 with
 | true => rw [if_pos rfl]
 |
  false =>
  obtain ⟨t, path, s, e1, h1, h2, h3⟩ := DrawMissingOf_ok c
  have ht := h1.sm
  have hp : path.length <= 1048576 := by omega
  have hn : sho s := by unfold sho; omega
  have hlen := missingL_size t path s
  have hrl := reachL_len (t := t) (path := path) (s := s)
  have hE : m_laws_equalTexts (missingL t path s) (missingL t path s) = some true := by rw [equalTexts_eq (by omega)]; simp
  rw [if_neg (by decide), e1, Option.bind_some]
  dsimp only
  rw [MissingOf_eq ht hp hn, Option.bind_some, spec_MissingOf_eq ht hp hn, Option.bind_some, hE, Option.bind_some, ValidTree_eq ht, ValidPath_eq hp, ValidName_eq hn]
  have hbad : ((some (missingL t path s)).bind fun v30 => (m_laws_equalTexts (missingL t path s) v30).bind fun v31 => some v31) = some true := by rw [Option.bind_some, hE, Option.bind_some]
  cases hv : validTree t with
  | false => exact hbad
  |
   true =>
   cases hvp : validPath path with
   | false => exact hbad
   |
    true =>
    cases hs : validName s with
    | false => exact hbad
    |
     true =>
     have hl : loopM (fun s40 => m_laws_FnMissingOf_s0 (t, path, s) (missingL t path s) (reachL t path s) s40) (0 : Int) = some (.inl ()) := by
      refine loop_upto (reachL t path s).length (fun k => (k : Int)) (fun k hk => ?_) ?_ (by omega) rfl
      ·
       obtain ⟨x, hx, hm⟩ := get_some hk
       obtain ⟨hxv, hok⟩ := reachL_valid hm
       have hd : decide (x ∈ missingL t path s) = missing t path x := by
        unfold missingL
        rw [Bool.eq_iff_iff, decide_eq_true_eq, List.mem_filter]
        exact ⟨fun h => h.2, fun h => ⟨hm, h⟩⟩
       have hc : cmpI .neq (findOf t path x).kind 0 = !missing t path x := by
        unfold findOf missing
        rw [if_pos (by have := okG_name hok hxv; unfold okG at this; exact this)]
        rfl
       unfold m_laws_FnMissingOf_s0
       dsimp only
       rw [lss_nat, if_pos (decide_eq_true hk), atI_nat, hx, Option.bind_some, laws_hasText_mem (by omega), Option.bind_some, Option.bind_some, CanFind_eq ht hp (validName_sho hxv), Option.bind_some, hd, hc, i64_succ (by omega)]
       cases missing t path x <;> rfl
      ·
       unfold m_laws_FnMissingOf_s0
       rw [lss_nat, if_neg (by simp)]
     have hw : m_laws_withinTexts (missingL t path s) (reachL t path s) = some true := within_all (by omega) (by omega) fun y hy => (List.mem_filter.1 hy).1
     have hr : m_laws_rises (missingL t path s) = some true := rises_eq (asc_filter _ reachL_asc) (by omega)
     have hgood : ((some (reachL t path s)).bind fun v35 => Option.bind (α := Unit ⊕ Bool) (loopM (fun s40 => m_laws_FnMissingOf_s0 (t, path, s) (missingL t path s) v35 s40) (0 : Int)) (Sum.elim (fun b38 => (m_laws_rises (missingL t path s)).bind fun v64 => (gO (v64 == true) (m_laws_withinTexts (missingL t path s) v35)).bind fun v65 => some (v64 && v65)) some)) = some true := by
      rw [Option.bind_some, hl, Option.bind_some, Sum.elim_inl, hr, Option.bind_some, show ((true : Bool) == true) = true from rfl, gO_true, hw]
      rfl
     rw [ReachOf_eq ht hp hn]
     exact hgood
section
variable {t : Tree} {path : List Int} {s : Str}
end
theorem FnMissingOf_true (c : List UInt8) : Fn Tryz.prog 6 [dt c] (dt true) := laws_FnMissingOf_w (law_MissingOf' c)
end Go.Proofs.YtbnibckkfknpkaaGreatDoor
