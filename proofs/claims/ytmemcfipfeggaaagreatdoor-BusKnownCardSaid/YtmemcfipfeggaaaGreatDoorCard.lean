/- Part Card: an interpreter of the program's operations over abstract memory, its laws, and what it tells of the statement. No condition. -/
import Derived.Test.YtmemcfipfeggaaaGreatDoorTie
import Derived.Test.YtmemcfipfeggaaaGreatDoorCards
import Derived.Lay
import Derived.ProofKit
import Derived.Stop.Joined
import Derived.Test.YtmemcfipfeggaaaGreatDoorStartA
import Derived.Test.YtmemcfipfeggaaaGreatDoorFacts
set_option linter.unusedVariables false
set_option linter.unusedSimpArgs false
set_option linter.unusedSectionVars false
section
/- 'BusKnown' returns true, whatever the memory: the tied card. No condition. -/
open Go Go.Den
namespace Go.Proofs.YtmemcfipfeggaaaGreatDoor
open Go.ChangeShapes Go.WideShapes Go.ChangeAt Go.WideMaps Go.WideElems Go.RowKit
set_option maxRecDepth 100000

theorem own : ownKnob Tryz.prog.godebug = none := by kernel_rfl
theorem lifted (os : Os) (started : os.Started) (H : Type) (enc : TypeId × Value → H) :
    ReturnsInHanded {} Tryz.checked os 5 .any (fun w args => (Rows.busKnownSpec.pre enc Tryz.prog Tryz.f5 [] false w args ∧ laidMetH Tryz.prog lst w) ∧ sizedMet enc Tryz.prog Tryz.f5 (OpenSpec.ofChange Rows.busKnownSpec) false w args)
      (Rows.busKnownSpec.post enc Tryz.prog Tryz.f5 false true false false) := by
  refine returnsInHanded_of_change_and (C := Tryz.checked) (X := fun w _ => laidMetH Tryz.prog lst w) (fun _ _ _ hh h => h.of_heap hh) own started (by kernel_rfl) Tryz.func5
    (ChangeSpec.witness_shaped (enc := enc) (C := Tryz.checked) (os := os) (X := fun w _ => laidMetH Tryz.prog lst w) false (World.laidAll Tryz.prog os lst) #[] 4 (World.laidAll_os _ _ _)
      (World.shaped_of_ZipB (by kernel_rfl) (by kernel_rfl)) (by kernel_rfl) (by kernel_rfl) (by kernel_rfl)
      (by rw [MakeChecks.laidMetH_plain _ _ _ (by kernel_rfl)]; exact laidMet_laidAll _ (by kernel_rfl) (by kernel_rfl))) ?_
  intro W base args ds gs before hval0 hW _ _ hL _
  have hW' := hW
  obtain ⟨p, q, hA0, hV, rfl, hfz, hnd⟩ := hW
  have hA : DataW.TrodAll enc Tryz.prog W 0 (fun _ => true) true Tryz.f5.params.toList args.toList ds p := hA0
  rw [Tryz.params5] at hA
  obtain ⟨args⟩ := args
  cases args with
  | cons a l => simp [DataW.TrodAll] at hA
  | nil =>
    cases ds with
    | cons d l => simp [DataW.TrodAll] at hA
    | nil =>
      obtain ⟨rfl, rfl⟩ := trodVars_none hV
      simp only [List.append_nil] at hW'
      refine (walk W).mono fun e W' ⟨he, hk⟩ => ?_
      subst he
      exact ⟨_, rfl, _, _, _, [], [], [], hW', trodAll_mk1 (shut_bool Tryz.underlying4 _), by rw [show Tryz.f5.params.toList = [] by rw [Tryz.params5]]; rfl, rfl, hk.but _, fun h => by cases h⟩

theorem named5 : Tryz.prog.funcNamed "almonry/almonrylaw22.BusKnown" = some 5 := by kernel_rfl
theorem busKnown_holds : Rows.BusKnownSaid :=
  OpenClaim.holds_of_wide 5 Tryz.f5 rfl rfl rfl rfl rfl rfl rfl ⟨rfl, rfl, rfl, rfl, rfl⟩ rfl rfl rfl rfl rfl named5 Tryz.func5 closed
    (of_decide_eq_true (by kernel_rfl)) (by unfold Func.isWrapper; first | (rw [if_pos (by decide +kernel)]; kernel_rfl) | (rw [if_neg (by decide +kernel)]; exact ⟨rfl, rfl⟩))
    (fun os started H enc _ => lifted os started H enc)

theorem wfText : Rows.busKnownRow.wfByText (OpenSpec.ofChange Rows.busKnownSpec) = true := by kernel_rfl
theorem mainIs : Tryz.prog.mainIs = some (true, "ba4ee1eb09c5660f553bd3f840d2b4e3c404a5f1b732f223a61b8a18d5474624".toList) := by kernel_rfl
theorem looksNot : false = Tryz.prog.looks [] := by kernel_rfl
theorem goesNot : false = Rows.busKnownRow.goesBy Tryz.prog := by kernel_rfl

theorem card_holds : Rows.BusKnownCardSaid :=
  Claim7.holds_tied_plain_at .later [] [.data, .data, .data] true (true, "ba4ee1eb09c5660f553bd3f840d2b4e3c404a5f1b732f223a61b8a18d5474624") false
    busKnown_holds (fun _ h => by cases h) wfText (fun _ h => by cases h) busKnown_row_tie rfl ⟨rfl, rfl⟩ mainIs rfl
    (fun f fn hf hfn => by
      obtain rfl : f = 5 := Option.some.inj (named5.symm.trans hf) |>.symm
      obtain rfl : fn = Tryz.f5 := (Option.some.inj (Tryz.func5.symm.trans hfn)).symm
      exact ⟨looksNot, fun j t ht => by
        rw [Tryz.params5] at ht
        cases j <;> simp at ht⟩)
    goesNot
#print axioms card_holds

end Go.Proofs.YtmemcfipfeggaaaGreatDoor
end
