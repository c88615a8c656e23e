/-
  laws.
-/
import Derived.Test.YtbnibckkfknpkaaGreatDoorHB
import Derived.Test.YtbnibckkfknpkaaGreatDoorHMU
import Derived.Test.YtbnibckkfknpkaaGreatDoorCards
import Derived.Test.YtbnibckkfknpkaaGreatDoorTie
import Derived.ProofKit
import Derived.LaidMore
import Derived.Lay
import Derived.OpenShut
import Derived.Stop.Joined
import Derived.SevenTiedAt
namespace Go.Proofs.YtbnibckkfknpkaaGreatDoor
open Go.ChangeShapes Go.WideShapes Go.ChangeAt Go.RowKit

theorem ownRowEU : ownKnob Tryz.prog.godebug = none := by kernel_rfl
theorem laidOutRowEU : laidOutB Tryz.prog = true := by kernel_rfl

/-! ### The arguments' types -/
theorem oT3 : Opn Tryz.prog 3 (Int) := Opn.int Tryz.underlying3 (by kernel_rfl)
theorem oT9 : Opn Tryz.prog 9 (Str) := Opn.str Tryz.underlying9 (by kernel_rfl)
theorem oT4 : Opn Tryz.prog 4 (Bool) := Opn.bool Tryz.underlying4 (by kernel_rfl)
theorem oT138 : Opn Tryz.prog 138 (Stmt) := Opn.struct (β := Int × Str × Int × Str × Int) (f := fun (x : Stmt) => (x.kind, x.module, x.level, x.name, x.value)) (fun b => ⟨b.1, b.2.1, b.2.2.1, b.2.2.2.1, b.2.2.2.2⟩) (fun _ => rfl) Tryz.underlying138 (by kernel_rfl) (OpnF.cons rfl oT3 (OpnF.cons rfl oT9 (OpnF.cons rfl oT3 (OpnF.cons rfl oT9 (OpnF.last rfl oT3)))))
theorem oT84 : Opn Tryz.prog 84 (List Stmt) := Opn.slice Tryz.underlying84 (by kernel_rfl) oT138
theorem oT86 : Opn Tryz.prog 86 (File) := Opn.struct (β := Int × Str × Str × Bool × Int × List Stmt) (f := fun (x : File) => (x.root, x.pkg, x.name, x.init, x.stamp, x.body)) (fun b => ⟨b.1, b.2.1, b.2.2.1, b.2.2.2.1, b.2.2.2.2.1, b.2.2.2.2.2⟩) (fun _ => rfl) Tryz.underlying86 (by kernel_rfl) (OpnF.cons rfl oT3 (OpnF.cons rfl oT9 (OpnF.cons rfl oT9 (OpnF.cons rfl oT4 (OpnF.cons rfl oT3 (OpnF.last rfl oT84))))))
theorem oT22 : Opn Tryz.prog 22 (List File) := Opn.slice Tryz.underlying22 (by kernel_rfl) oT86
theorem oT24 : Opn Tryz.prog 24 (Tree) := Opn.struct (β := List File) (f := fun (x : Tree) => x.files) (fun b => ⟨b⟩) (fun _ => rfl) Tryz.underlying24 (by kernel_rfl) (OpnF.last rfl oT22)
theorem oT25 : Opn Tryz.prog 25 (List Int) := Opn.slice Tryz.underlying25 (by kernel_rfl) oT3

theorem trodAll_consRowEU {H : Type} {enc : TypeId × Value → H} {P : Program} {w : World} {b : Nat} {sp : Nat → Bool} {hd : Bool} {t : TypeId} {ts : List TypeId} {vs : List Value} {ds : List (DataW H)} {ps : List MemPlace} (h : DataW.TrodAll enc P w b sp hd (t :: ts) vs ds ps) :
    ∃ v vs' d ds' p q, vs = v :: vs' ∧ ds = d :: ds' ∧ ps = p ++ q ∧ DataW.Trod enc P w b sp hd t v d p ∧ DataW.TrodAll enc P w b sp hd ts vs' ds' q := by
  cases vs with
  | nil => exact h.elim
  | cons v vs =>
    cases ds with
    | nil => exact h.elim
    | cons d ds =>
      obtain ⟨p, q, h1, h2, h3⟩ := h
      exact ⟨v, vs, d, ds, p, q, rfl, rfl, h3, h1, h2⟩
theorem trodAll_nilRowEU {H : Type} {enc : TypeId × Value → H} {P : Program} {w : World} {b : Nat} {sp : Nat → Bool} {hd : Bool} {vs : List Value} {ds : List (DataW H)} {ps : List MemPlace} (h : DataW.TrodAll enc P w b sp hd [] vs ds ps) : vs = [] ∧ ds = [] ∧ ps = [] := by
  cases vs with
  | nil =>
    cases ds with
    | nil => exact ⟨rfl, rfl, h⟩
    | cons d ds => exact h.elim
  | cons v vs => exact h.elim

set_option maxRecDepth 100000 in
theorem liftedRowEU (os : Os) (started : os.Started) (H : Type) (enc : TypeId × Value → H) :
    ReturnsInHanded {} Tryz.checked os 12 .any (fun w args => (Rows.fnExactUsersOfSpec.pre enc Tryz.prog Tryz.f12 [] false w args ∧ laidMetH Tryz.prog Rows.fnExactUsersOfRow.laid w) ∧ sizedMet enc Tryz.prog Tryz.f12 (OpenSpec.ofChange Rows.fnExactUsersOfSpec) false w args)
      (Rows.fnExactUsersOfSpec.post enc Tryz.prog Tryz.f12 false true false false) := by
  refine returnsInHanded_of_change_and (C := Tryz.checked) (X := fun w _ => laidMetH Tryz.prog Rows.fnExactUsersOfRow.laid w) (fun _ _ _ hh h => h.of_heap hh) ownRowEU started (by kernel_rfl) Tryz.func12
    (ChangeSpec.witness_shaped (enc := enc) (C := Tryz.checked) (os := os) (X := fun w _ => laidMetH Tryz.prog Rows.fnExactUsersOfRow.laid w) false (World.laidAll Tryz.prog os Rows.fnExactUsersOfRow.laid) #[.agg #[.slice none 0 0], .slice none 0 0, .string ⟨#[]⟩] 8 (World.laidAll_os _ _ _) (World.shaped_of_ZipB (by kernel_rfl) (by kernel_rfl)) (by kernel_rfl) (by kernel_rfl) (by kernel_rfl)
      (by rw [MakeChecks.laidMetH_plain _ _ _ (by kernel_rfl)]; exact laidMet_laidAll _ (by kernel_rfl) (by kernel_rfl))) ?_
  intro W base args ds gs before hval0 hW _ _ _ _
  have hval : ∀ (j : Nat) t v, Tryz.f12.params[j]? = some t → args[j]? = some v → Value.okWide Tryz.prog W .any base t v := hval0
  have hW' := hW
  obtain ⟨p, q, hA0, hV, rfl, hfz, hnd⟩ := hW
  have hA : DataW.TrodAll enc Tryz.prog W 0 (fun _ => true) true Tryz.f12.params.toList args.toList ds p := hA0
  rw [Tryz.params12] at hA hval
  obtain ⟨args⟩ := args
  have hA1 : DataW.TrodAll enc Tryz.prog W 0 (fun _ => true) true [24, 25, 9] args ds p := hA
  clear hA hA0
  obtain ⟨v0, vs0, d0, ds0, p0, q0, rfl, rfl, rfl, h0, k0⟩ := trodAll_consRowEU hA1
  obtain ⟨v1, vs1, d1, ds1, p1, q1, rfl, rfl, rfl, h1, k1⟩ := trodAll_consRowEU k0
  obtain ⟨v2, vs2, d2, ds2, p2, q2, rfl, rfl, rfl, h2, k2⟩ := trodAll_consRowEU k1
  obtain ⟨rfl, rfl, rfl⟩ := trodAll_nilRowEU k2
  obtain ⟨rfl, rfl⟩ := trodVars_none hV
  obtain ⟨a0, r0⟩ := oT24.rd h0 (mkv_struct Tryz.underlying24 (hval 0 24 v0 rfl rfl))
  obtain ⟨a1, r1⟩ := oT25.rd h1 (mkv_slice Tryz.underlying25 (hval 1 25 v1 rfl rfl))
  obtain ⟨a2, r2⟩ := oT9.rd h2 (mkv_string Tryz.underlying9 (hval 2 9 v2 rfl rfl))
  have hlt : ∀ x ∈ p0 ++ (p1 ++ (p2 ++ [])), x.block < W.heap.size := fun x hx => by
    have := hW'.lt x (by simpa using hx)
    simpa using this
  refine ((FnExactUsersOf_true a0 a1 a2) noB W [v0, v1, v2] (fun _ h => h.elim) (.cons r0 (.cons r1 (.cons r2 (.nil))))).mono fun e W' ⟨v, he, hx, hv⟩ => ?_
  subst he
  obtain rfl := dt_bool.1 hv
  have stay : ∀ {t : TypeId} {v : Value} {d : DataW H} {ps : List MemPlace}, Tryz.prog.readableRec t = true → t < Tryz.prog.types.size → DataW.Trod enc Tryz.prog W 0 (fun _ => true) true t v d ps → (∀ x ∈ ps, x.block < W.heap.size) → DataW.Trod enc Tryz.prog W' 0 (fun b => decide (b < W.heap.size)) true t v d ps :=
    fun hr ht h hl => Below.trod laidOutRowEU hr ht h hx hl
  refine ⟨_, rfl, _, _, _, [], (p0 ++ (p1 ++ (p2 ++ []))), [], hW', trodAll_mk1 (shut_bool Tryz.underlying4 _), ?_, rfl, hx.frame _, fun h => by cases h⟩
  show DataW.TrodAll enc Tryz.prog W' 0 (fun b => decide (b < W.heap.size)) true Tryz.f12.params.toList [v0, v1, v2] [d0, d1, d2] _
  rw [Tryz.params12]
  exact ⟨p0, _, stay (by kernel_rfl) (of_decide_eq_true (by kernel_rfl)) h0 (fun x hx => hlt x (List.mem_append_left _ hx)), ⟨p1, _, stay (by kernel_rfl) (of_decide_eq_true (by kernel_rfl)) h1 (fun x hx => hlt x (List.mem_append_right _ (List.mem_append_left _ hx))), ⟨p2, _, stay (by kernel_rfl) (of_decide_eq_true (by kernel_rfl)) h2 (fun x hx => hlt x (List.mem_append_right _ (List.mem_append_right _ (List.mem_append_left _ hx)))), rfl, rfl⟩, rfl⟩, rfl⟩

theorem fnExactUsersOf_row_holds : Rows.FnExactUsersOfSaid :=
  OpenClaim.holds_of_wide 12 Tryz.f12 rfl rfl rfl rfl rfl rfl rfl ⟨rfl, rfl, rfl, rfl, rfl⟩ rfl rfl rfl rfl rfl (by kernel_rfl) Tryz.func12 (by kernel_rfl)
    (of_decide_eq_true (by kernel_rfl)) (by unfold Func.isWrapper; first | (rw [if_pos (by decide +kernel)]; kernel_rfl) | (rw [if_neg (by decide +kernel)]; exact ⟨rfl, rfl⟩))
    (fun os started H enc _ => liftedRowEU os started H enc)

/-- THE TIED CARD. -/
theorem fnExactUsersOf_holds : Rows.FnExactUsersOfCardSaid :=
  Claim7.holds_tied_plain_at .later [] [.data, .pinned] true (true, "1c2eba818e10eb4cb3a3ebb6b2ca8991701bad3b7e7e37954f9ffd75d14ec2ba") false
    fnExactUsersOf_row_holds (fun _ h => by cases h) (by kernel_rfl) (fun _ h => by cases h) fnExactUsersOf_row_tie rfl ⟨rfl, rfl⟩ (by kernel_rfl) rfl
    (fun f fn hf hfn => by
      obtain rfl : f = 12 := Option.some.inj ((show Tryz.prog.funcNamed Rows.fnExactUsersOfRow.func = some 12 by kernel_rfl).symm.trans hf) |>.symm
      obtain rfl : fn = Tryz.f12 := (Option.some.inj (Tryz.func12.symm.trans hfn)).symm
      exact ⟨by kernel_rfl, fun j t ht => by
        rw [Tryz.params12] at ht
        have hm : t ∈ [24, 25, 9] := by simpa using Array.mem_of_getElem? ht
        have hall : ([24, 25, 9].all fun u => !Tryz.prog.wantsStandIn u) = true := by kernel_rfl
        exact (show Tryz.prog.wantsStandIn t = false by simpa using List.all_eq_true.1 hall t hm)⟩)
    (by kernel_rfl)
#print axioms fnExactUsersOf_holds
end Go.Proofs.YtbnibckkfknpkaaGreatDoor
