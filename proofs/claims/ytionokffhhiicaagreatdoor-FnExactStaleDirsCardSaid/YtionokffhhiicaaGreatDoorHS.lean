/-
  laws.FnExactStaleDirs: FOR EVERY INPUT IT RETURNS true, and each argument reads behind the call as it read before; the row, and the card with its laid variables tied to the program's text. No condition beyond the row's own (laid).
-/
import Derived.Test.YtionokffhhiicaaGreatDoorHB
import Derived.Test.YtionokffhhiicaaGreatDoorHI
import Derived.Test.YtionokffhhiicaaGreatDoorCards
import Derived.Test.YtionokffhhiicaaGreatDoorTie
import Derived.ProofKit
import Derived.LaidMore
import Derived.Lay
import Derived.OpenShut
import Derived.Stop.Joined
import Derived.SevenTiedAt
namespace Go.Proofs.YtionokffhhiicaaGreatDoor
open Go.ChangeShapes Go.WideShapes Go.ChangeAt Go.RowKit

theorem ownRowC : ownKnob Tryz.prog.godebug = none := by kernel_rfl
theorem laidOutRowC : laidOutB Tryz.prog = true := by kernel_rfl

/-! ### The arguments' types -/
theorem oT3 : Opn Tryz.prog 3 (Int) := Opn.int Tryz.underlying3 (by kernel_rfl)
theorem oT9 : Opn Tryz.prog 9 (Str) := Opn.str Tryz.underlying9 (by kernel_rfl)
theorem oT47 : Opn Tryz.prog 47 (List Str) := Opn.slice Tryz.underlying47 (by kernel_rfl) oT9
theorem oT147 : Opn Tryz.prog 147 (Dir) := Opn.struct (β := Int × Str × Int × List Str) (f := fun (x : Dir) => (x.root, x.pkg, x.stamp, x.names)) (fun b => ⟨b.1, b.2.1, b.2.2.1, b.2.2.2⟩) (fun _ => rfl) Tryz.underlying147 (by kernel_rfl) (OpnF.cons rfl oT3 (OpnF.cons rfl oT9 (OpnF.cons rfl oT3 (OpnF.last rfl oT47))))
theorem oT69 : Opn Tryz.prog 69 (List Dir) := Opn.slice Tryz.underlying69 (by kernel_rfl) oT147
theorem oT71 : Opn Tryz.prog 71 (Finder) := Opn.struct (β := List Dir × Int × Int) (f := fun (x : Finder) => (x.dirs, x.fills, x.hits)) (fun b => ⟨b.1, b.2.1, b.2.2⟩) (fun _ => rfl) Tryz.underlying71 (by kernel_rfl) (OpnF.cons rfl oT69 (OpnF.cons rfl oT3 (OpnF.last rfl oT3)))
theorem oT4 : Opn Tryz.prog 4 (Bool) := Opn.bool Tryz.underlying4 (by kernel_rfl)
theorem oT172 : Opn Tryz.prog 172 (Stmt) := Opn.struct (β := Int × Str × Int × Str × Int) (f := fun (x : Stmt) => (x.kind, x.module, x.level, x.name, x.value)) (fun b => ⟨b.1, b.2.1, b.2.2.1, b.2.2.2.1, b.2.2.2.2⟩) (fun _ => rfl) Tryz.underlying172 (by kernel_rfl) (OpnF.cons rfl oT3 (OpnF.cons rfl oT9 (OpnF.cons rfl oT3 (OpnF.cons rfl oT9 (OpnF.last rfl oT3)))))
theorem oT117 : Opn Tryz.prog 117 (List Stmt) := Opn.slice Tryz.underlying117 (by kernel_rfl) oT172
theorem oT119 : Opn Tryz.prog 119 (File) := Opn.struct (β := Int × Str × Str × Bool × Int × List Stmt) (f := fun (x : File) => (x.root, x.pkg, x.name, x.init, x.stamp, x.body)) (fun b => ⟨b.1, b.2.1, b.2.2.1, b.2.2.2.1, b.2.2.2.2.1, b.2.2.2.2.2⟩) (fun _ => rfl) Tryz.underlying119 (by kernel_rfl) (OpnF.cons rfl oT3 (OpnF.cons rfl oT9 (OpnF.cons rfl oT9 (OpnF.cons rfl oT4 (OpnF.cons rfl oT3 (OpnF.last rfl oT117))))))
theorem oT22 : Opn Tryz.prog 22 (List File) := Opn.slice Tryz.underlying22 (by kernel_rfl) oT119
theorem oT24 : Opn Tryz.prog 24 (Tree) := Opn.struct (β := List File) (f := fun (x : Tree) => x.files) (fun b => ⟨b⟩) (fun _ => rfl) Tryz.underlying24 (by kernel_rfl) (OpnF.last rfl oT22)
theorem oT73 : Opn Tryz.prog 73 (Disk) := Opn.struct (β := Tree × Int × List Dir) (f := fun (x : Disk) => (x.tree, x.clock, x.dirs)) (fun b => ⟨b.1, b.2.1, b.2.2⟩) (fun _ => rfl) Tryz.underlying73 (by kernel_rfl) (OpnF.cons rfl oT24 (OpnF.cons rfl oT3 (OpnF.last rfl oT69)))

theorem trodAll_consRowC {H : Type} {enc : TypeId × Value → H} {P : Program} {w : World} {b : Nat} {sp : Nat → Bool} {hd : Bool} {t : TypeId} {ts : List TypeId} {vs : List Value} {ds : List (DataW H)} {ps : List MemPlace} (h : DataW.TrodAll enc P w b sp hd (t :: ts) vs ds ps) :
    ∃ v vs' d ds' p q, vs = v :: vs' ∧ ds = d :: ds' ∧ ps = p ++ q ∧ DataW.Trod enc P w b sp hd t v d p ∧ DataW.TrodAll enc P w b sp hd ts vs' ds' q := by
  cases vs with
  | nil => exact h.elim
  | cons v vs =>
    cases ds with
    | nil => exact h.elim
    | cons d ds =>
      obtain ⟨p, q, h1, h2, h3⟩ := h
      exact ⟨v, vs, d, ds, p, q, rfl, rfl, h3, h1, h2⟩
theorem trodAll_nilRowC {H : Type} {enc : TypeId × Value → H} {P : Program} {w : World} {b : Nat} {sp : Nat → Bool} {hd : Bool} {vs : List Value} {ds : List (DataW H)} {ps : List MemPlace} (h : DataW.TrodAll enc P w b sp hd [] vs ds ps) : vs = [] ∧ ds = [] ∧ ps = [] := by
  cases vs with
  | nil =>
    cases ds with
    | nil => exact ⟨rfl, rfl, h⟩
    | cons d ds => exact h.elim
  | cons v vs => exact h.elim

set_option maxRecDepth 100000 in
theorem liftedRowC (os : Os) (started : os.Started) (H : Type) (enc : TypeId × Value → H) :
    ReturnsInHanded {} Tryz.checked os 7 .any (fun w args => (Rows.fnExactStaleDirsSpec.pre enc Tryz.prog Tryz.f7 [] false w args ∧ laidMetH Tryz.prog Rows.fnExactStaleDirsRow.laid w) ∧ sizedMet enc Tryz.prog Tryz.f7 (OpenSpec.ofChange Rows.fnExactStaleDirsSpec) false w args)
      (Rows.fnExactStaleDirsSpec.post enc Tryz.prog Tryz.f7 false true false false) := by
  refine returnsInHanded_of_change_and (C := Tryz.checked) (X := fun w _ => laidMetH Tryz.prog Rows.fnExactStaleDirsRow.laid w) (fun _ _ _ hh h => h.of_heap hh) ownRowC started (by kernel_rfl) Tryz.func7
    (ChangeSpec.witness_shaped (enc := enc) (C := Tryz.checked) (os := os) (X := fun w _ => laidMetH Tryz.prog Rows.fnExactStaleDirsRow.laid w) false (World.laidAll Tryz.prog os Rows.fnExactStaleDirsRow.laid) #[.agg #[.slice none 0 0, .int .i64 0, .int .i64 0], .agg #[.slice none 0 0, .int .i64 0, .slice none 0 0]] 8 (World.laidAll_os _ _ _) (World.shaped_of_ZipB (by kernel_rfl) (by kernel_rfl)) (by kernel_rfl) (by kernel_rfl) (by kernel_rfl)
      (by rw [MakeChecks.laidMetH_plain _ _ _ (by kernel_rfl)]; exact laidMet_laidAll _ (by kernel_rfl) (by kernel_rfl))) ?_
  intro W base args ds gs before hval0 hW _ _ _ _
  have hval : ∀ (j : Nat) t v, Tryz.f7.params[j]? = some t → args[j]? = some v → Value.okWide Tryz.prog W .any base t v := hval0
  have hW' := hW
  obtain ⟨p, q, hA0, hV, rfl, hfz, hnd⟩ := hW
  have hA : DataW.TrodAll enc Tryz.prog W 0 (fun _ => true) true Tryz.f7.params.toList args.toList ds p := hA0
  rw [Tryz.params7] at hA hval
  obtain ⟨args⟩ := args
  have hA1 : DataW.TrodAll enc Tryz.prog W 0 (fun _ => true) true [71, 73] args ds p := hA
  clear hA hA0
  obtain ⟨v0, vs0, d0, ds0, p0, q0, rfl, rfl, rfl, h0, k0⟩ := trodAll_consRowC hA1
  obtain ⟨v1, vs1, d1, ds1, p1, q1, rfl, rfl, rfl, h1, k1⟩ := trodAll_consRowC k0
  obtain ⟨rfl, rfl, rfl⟩ := trodAll_nilRowC k1
  obtain ⟨rfl, rfl⟩ := trodVars_none hV
  obtain ⟨a0, r0⟩ := oT71.rd h0 (mkv_struct Tryz.underlying71 (hval 0 71 v0 rfl rfl))
  obtain ⟨a1, r1⟩ := oT73.rd h1 (mkv_struct Tryz.underlying73 (hval 1 73 v1 rfl rfl))
  have hlt : ∀ x ∈ p0 ++ (p1 ++ []), x.block < W.heap.size := fun x hx => by
    have := hW'.lt x (by simpa using hx)
    simpa using this
  refine ((FnExactStaleDirs_true a0 a1) noB W [v0, v1] (fun _ h => h.elim) (.cons r0 (.cons r1 (.nil)))).mono fun e W' ⟨v, he, hx, hv⟩ => ?_
  subst he
  obtain rfl := dt_bool.1 hv
  have stay : ∀ {t : TypeId} {v : Value} {d : DataW H} {ps : List MemPlace}, Tryz.prog.readableRec t = true → t < Tryz.prog.types.size → DataW.Trod enc Tryz.prog W 0 (fun _ => true) true t v d ps → (∀ x ∈ ps, x.block < W.heap.size) → DataW.Trod enc Tryz.prog W' 0 (fun b => decide (b < W.heap.size)) true t v d ps :=
    fun hr ht h hl => Below.trod laidOutRowC hr ht h hx hl
  refine ⟨_, rfl, _, _, _, [], (p0 ++ (p1 ++ [])), [], hW', trodAll_mk1 (shut_bool Tryz.underlying4 _), ?_, rfl, hx.frame _, fun h => by cases h⟩
  show DataW.TrodAll enc Tryz.prog W' 0 (fun b => decide (b < W.heap.size)) true Tryz.f7.params.toList [v0, v1] [d0, d1] _
  rw [Tryz.params7]
  exact ⟨p0, _, stay (by kernel_rfl) (of_decide_eq_true (by kernel_rfl)) h0 (fun x hx => hlt x (List.mem_append_left _ hx)), ⟨p1, _, stay (by kernel_rfl) (of_decide_eq_true (by kernel_rfl)) h1 (fun x hx => hlt x (List.mem_append_right _ (List.mem_append_left _ hx))), rfl, rfl⟩, rfl⟩

theorem fnExactStaleDirs_row_holds : Rows.FnExactStaleDirsSaid :=
  OpenClaim.holds_of_wide 7 Tryz.f7 rfl rfl rfl rfl rfl rfl rfl ⟨rfl, rfl, rfl, rfl, rfl⟩ rfl rfl rfl rfl rfl (by kernel_rfl) Tryz.func7 (by kernel_rfl)
    (of_decide_eq_true (by kernel_rfl)) (by unfold Func.isWrapper; first | (rw [if_pos (by decide +kernel)]; kernel_rfl) | (rw [if_neg (by decide +kernel)]; exact ⟨rfl, rfl⟩))
    (fun os started H enc _ => liftedRowC os started H enc)

/-- THE TIED CARD. -/
theorem fnExactStaleDirs_holds : Rows.FnExactStaleDirsCardSaid :=
  Claim7.holds_tied_plain_at .later [] [.data, .pinned] true (true, "ccfaf817304eb132ae62ff61e578100054ccc538f3b7632e6dc167ebeed47a05") false
    fnExactStaleDirs_row_holds (fun _ h => by cases h) (by kernel_rfl) (fun _ h => by cases h) fnExactStaleDirs_row_tie rfl ⟨rfl, rfl⟩ (by kernel_rfl) rfl
    (fun f fn hf hfn => by
      obtain rfl : f = 7 := Option.some.inj ((show Tryz.prog.funcNamed Rows.fnExactStaleDirsRow.func = some 7 by kernel_rfl).symm.trans hf) |>.symm
      obtain rfl : fn = Tryz.f7 := (Option.some.inj (Tryz.func7.symm.trans hfn)).symm
      exact ⟨by kernel_rfl, fun j t ht => by
        rw [Tryz.params7] at ht
        have hm : t ∈ [71, 73] := by simpa using Array.mem_of_getElem? ht
        have hall : ([71, 73].all fun u => !Tryz.prog.wantsStandIn u) = true := by kernel_rfl
        exact (show Tryz.prog.wantsStandIn t = false by simpa using List.all_eq_true.1 hall t hm)⟩)
    (by kernel_rfl)
#print axioms fnExactStaleDirs_holds
end Go.Proofs.YtionokffhhiicaaGreatDoor
