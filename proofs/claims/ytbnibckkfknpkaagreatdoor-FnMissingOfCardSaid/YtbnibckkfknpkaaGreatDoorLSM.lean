/-
  laws.
-/
import Derived.Test.YtbnibckkfknpkaaGreatDoorLBM
import Derived.Test.YtbnibckkfknpkaaGreatDoorLMM
import Derived.Test.YtbnibckkfknpkaaGreatDoorCards
import Derived.Test.YtbnibckkfknpkaaGreatDoorTie
import Derived.ProofKit
import Derived.LaidMore
import Derived.Lay
import Derived.OpenShut
import Derived.Stop.Joined
import Derived.SevenTiedAt
namespace Go.Proofs.YtbnibckkfknpkaaGreatDoor
open Go.ChangeShapes Go.WideShapes Go.ChangeAt Go.RowKit
theorem ownRowLM : ownKnob Tryz.prog.godebug = none := by kernel_rfl
theorem laidOutRowLM : laidOutB Tryz.prog = true := by kernel_rfl
theorem oT5 : Opn Tryz.prog 5 (UInt8) := Opn.u8 Tryz.underlying5 (by kernel_rfl)
theorem oT42 : Opn Tryz.prog 42 (List UInt8) := Opn.slice Tryz.underlying42 (by kernel_rfl) oT5
theorem trodAll_consRowLM {H : Type} {enc : TypeId × Value -> H} {P : Program} {w : World} {b : Nat} {sp : Nat -> Bool} {hd : Bool} {t : TypeId} {ts : List TypeId} {vs : List Value} {ds : List (DataW H)} {ps : List MemPlace} (h : DataW.TrodAll enc P w b sp hd (t :: ts) vs ds ps) :
  ∃ v vs' d ds' p q, vs = v :: vs' /\ ds = d :: ds' /\ ps = p ++ q /\ DataW.Trod enc P w b sp hd t v d p /\ DataW.TrodAll enc P w b sp hd ts vs' ds' q := by
 cases vs with
 | nil => exact h.elim
 |
  cons v vs =>
  cases ds with
  | nil => exact h.elim
  |
   cons d ds =>
   obtain ⟨p, q, h1, h2, h3⟩ := h
   exact ⟨v, vs, d, ds, p, q, rfl, rfl, h3, h1, h2⟩
theorem trodAll_nilRowLM {H : Type} {enc : TypeId × Value -> H} {P : Program} {w : World} {b : Nat} {sp : Nat -> Bool} {hd : Bool} {vs : List Value} {ds : List (DataW H)} {ps : List MemPlace} (h : DataW.TrodAll enc P w b sp hd [] vs ds ps) : vs = [] /\ ds = [] /\ ps = [] := by
 cases vs with
 |
  nil =>
  cases ds with
  | nil => exact ⟨rfl, rfl, h⟩
  | cons d ds => exact h.elim
 | cons v vs => exact h.elim
set_option maxRecDepth 100000 in
theorem liftedRowLM (os : Os) (started : os.Started) (H : Type) (enc : TypeId × Value -> H) :
  ReturnsInHanded {} Tryz.checked os 6 .any (fun w args => (Rows.fnMissingOfSpec.pre enc Tryz.prog Tryz.f6 [] false w args /\ laidMetH Tryz.prog Rows.fnMissingOfRow.laid w) /\ sizedMet enc Tryz.prog Tryz.f6 (OpenSpec.ofChange Rows.fnMissingOfSpec) false w args)
   (Rows.fnMissingOfSpec.post enc Tryz.prog Tryz.f6 false true false false) := by
 refine returnsInHanded_of_change_and (C := Tryz.checked) (X := fun w _ => laidMetH Tryz.prog Rows.fnMissingOfRow.laid w) (fun _ _ _ hh h => h.of_heap hh) ownRowLM started (by kernel_rfl) Tryz.func6
  (ChangeSpec.witness_shaped (enc := enc) (C := Tryz.checked) (os := os) (X := fun w _ => laidMetH Tryz.prog Rows.fnMissingOfRow.laid w) false (World.laidAll Tryz.prog os Rows.fnMissingOfRow.laid) #[.slice none 0 0] 8 (World.laidAll_os _ _ _) (World.shaped_of_ZipB (by kernel_rfl) (by kernel_rfl)) (by kernel_rfl) (by kernel_rfl) (by kernel_rfl)
   (by rw [MakeChecks.laidMetH_plain _ _ _ (by kernel_rfl)]; exact laidMet_laidAll _ (by kernel_rfl) (by kernel_rfl))) ?_
 intro W base args ds gs before hval0 hW _ _ _ _
 have hval : ∀ (j : Nat) t v, Tryz.f6.params[j]? = some t -> args[j]? = some v -> Value.okWide Tryz.prog W .any base t v := hval0
 have hW' := hW
 obtain ⟨p, q, hA0, hV, rfl, hfz, hnd⟩ := hW
 have hA : DataW.TrodAll enc Tryz.prog W 0 (fun _ => true) true Tryz.f6.params.toList args.toList ds p := hA0
 rw [Tryz.params6] at hA hval
 obtain ⟨args⟩ := args
 have hA1 : DataW.TrodAll enc Tryz.prog W 0 (fun _ => true) true [42] args ds p := hA
 clear hA hA0
 obtain ⟨v0, vs0, d0, ds0, p0, q0, rfl, rfl, rfl, h0, k0⟩ := trodAll_consRowLM hA1
 obtain ⟨rfl, rfl, rfl⟩ := trodAll_nilRowLM k0
 obtain ⟨rfl, rfl⟩ := trodVars_none hV
 obtain ⟨a0, r0⟩ := oT42.rd h0 (mkv_slice Tryz.underlying42 (hval 0 42 v0 rfl rfl))
 have hlt : ∀ x ∈ p0 ++ [], x.block < W.heap.size := fun x hx => by
  have := hW'.lt x (by simpa using hx)
  simpa using this
 refine ((FnMissingOf_true a0) noB W [v0] (fun _ h => h.elim) (.cons r0 (.nil))).mono fun e W' ⟨v, he, hx, hv⟩ => ?_
 subst he
 obtain rfl := dt_bool.1 hv
 have stay : ∀ {t : TypeId} {v : Value} {d : DataW H} {ps : List MemPlace}, Tryz.prog.readableRec t = true -> t < Tryz.prog.types.size -> DataW.Trod enc Tryz.prog W 0 (fun _ => true) true t v d ps -> (∀ x ∈ ps, x.block < W.heap.size) -> DataW.Trod enc Tryz.prog W' 0 (fun b => decide (b < W.heap.size)) true t v d ps :=
  fun hr ht h hl => Below.trod laidOutRowLM hr ht h hx hl
 refine ⟨_, rfl, _, _, _, [], (p0 ++ []), [], hW', trodAll_mk1 (shut_bool Tryz.underlying4 _), ?_, rfl, hx.frame _, fun h => by cases h⟩
 show DataW.TrodAll enc Tryz.prog W' 0 (fun b => decide (b < W.heap.size)) true Tryz.f6.params.toList [v0] [d0] _
 rw [Tryz.params6]
 exact ⟨p0, _, stay (by kernel_rfl) (of_decide_eq_true (by kernel_rfl)) h0 (fun x hx => hlt x (List.mem_append_left _ hx)), rfl, rfl⟩
theorem fnMissingOf_row_holds : Rows.FnMissingOfSaid :=
 OpenClaim.holds_of_wide 6 Tryz.f6 rfl rfl rfl rfl rfl rfl rfl ⟨rfl, rfl, rfl, rfl, rfl⟩ rfl rfl rfl rfl rfl (by kernel_rfl) Tryz.func6 (by kernel_rfl)
  (of_decide_eq_true (by kernel_rfl)) (by unfold Func.isWrapper; first | (rw [if_pos (by decide +kernel)]; kernel_rfl) | (rw [if_neg (by decide +kernel)]; exact ⟨rfl, rfl⟩))
  (fun os started H enc _ => liftedRowLM os started H enc)
theorem fnMissingOf_holds : Rows.FnMissingOfCardSaid :=
 Claim7.holds_tied_plain_at .later [] [.data, .pinned] true (true, "1c2eba818e10eb4cb3a3ebb6b2ca8991701bad3b7e7e37954f9ffd75d14ec2ba") false
  fnMissingOf_row_holds (fun _ h => by cases h) (by kernel_rfl) (fun _ h => by cases h) fnMissingOf_row_tie rfl ⟨rfl, rfl⟩ (by kernel_rfl) rfl
  (fun f fn hf hfn => by
   obtain rfl : f = 6 := Option.some.inj ((show Tryz.prog.funcNamed Rows.fnMissingOfRow.func = some 6 by kernel_rfl).symm.trans hf) |>.symm
   obtain rfl : fn = Tryz.f6 := (Option.some.inj (Tryz.func6.symm.trans hfn)).symm
   exact ⟨by kernel_rfl, fun j t ht => by
    rw [Tryz.params6] at ht
    have hm : t ∈ [42] := by simpa using Array.mem_of_getElem? ht
    have hall : ([42].all fun u => !Tryz.prog.wantsStandIn u) = true := by kernel_rfl
    exact (show Tryz.prog.wantsStandIn t = false by simpa using List.all_eq_true.1 hall t hm)⟩)
  (by kernel_rfl)
#print axioms fnMissingOf_holds
end Go.Proofs.YtbnibckkfknpkaaGreatDoor
