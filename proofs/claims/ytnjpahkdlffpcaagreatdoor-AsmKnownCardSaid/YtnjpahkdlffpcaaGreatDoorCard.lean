/- Part Card: an interpreter of the program's operations over abstract memory, its laws, and what it tells of the statement. No condition. -/
import Derived.Test.YtnjpahkdlffpcaaGreatDoorTie
import Derived.Test.YtnjpahkdlffpcaaGreatDoorCards
import Derived.Lay
import Derived.ProofKit
import Derived.Stop.Joined
import Derived.Test.YtnjpahkdlffpcaaGreatDoorStartA
set_option linter.unusedVariables false
set_option linter.unusedSimpArgs false
set_option linter.unusedSectionVars false
section
/- 'AsmKnown' returns true, whatever the memory: the tied card. No condition. -/
open Go Go.Den
namespace Go.Proofs.YtnjpahkdlffpcaaGreatDoor
open Go.ChangeShapes Go.WideShapes Go.ChangeAt Go.WideMaps Go.WideElems Go.RowKit
set_option maxRecDepth 100000

theorem own : ownKnob Tryz.prog.godebug = none := by kernel_rfl
theorem lifted (os : Os) (started : os.Started) (H : Type) (enc : TypeId × Value → H) :
    ReturnsInHanded {} Tryz.checked os 3 .any (fun w args => (Rows.asmKnownSpec.pre enc Tryz.prog Tryz.f3 [] false w args ∧ laidMetH Tryz.prog lst w) ∧ sizedMet enc Tryz.prog Tryz.f3 (OpenSpec.ofChange Rows.asmKnownSpec) false w args)
      (Rows.asmKnownSpec.post enc Tryz.prog Tryz.f3 false true false false) := by
  refine returnsInHanded_of_change_and (C := Tryz.checked) (X := fun w _ => laidMetH Tryz.prog lst w) (fun _ _ _ hh h => h.of_heap hh) own started (by kernel_rfl) Tryz.func3
    (ChangeSpec.witness_shaped (enc := enc) (C := Tryz.checked) (os := os) (X := fun w _ => laidMetH Tryz.prog lst w) false (World.laidAll Tryz.prog os lst) #[] 8 (World.laidAll_os _ _ _)
      (World.shaped_of_ZipB (by kernel_rfl) (by kernel_rfl)) (by kernel_rfl) (by kernel_rfl) (by kernel_rfl)
      (by rw [MakeChecks.laidMetH_plain _ _ _ (by kernel_rfl)]; exact laidMet_laidAll _ (by kernel_rfl) (by kernel_rfl))) ?_
  intro W base args ds gs before hval0 hW _ _ hL _
  have hW' := hW
  obtain ⟨p, q, hA0, hV, rfl, hfz, hnd⟩ := hW
  have hA : DataW.TrodAll enc Tryz.prog W 0 (fun _ => true) true Tryz.f3.params.toList args.toList ds p := hA0
  rw [Tryz.params3] at hA
  obtain ⟨args⟩ := args
  cases args with
  | cons a l => simp [DataW.TrodAll] at hA
  | nil =>
    cases ds with
    | cons d l => simp [DataW.TrodAll] at hA
    | nil =>
      obtain ⟨rfl, rfl⟩ := trodVars_none hV
      simp only [List.append_nil] at hW'
      refine (walk hL).mono fun e W' ⟨he, hk⟩ => ?_
      subst he
      exact ⟨_, rfl, _, _, _, [], [], [], hW', trodAll_mk1 (shut_bool Tryz.underlying4 _), by rw [show Tryz.f3.params.toList = [] by rw [Tryz.params3]]; rfl, rfl, hk.but _, fun h => by cases h⟩

theorem asmKnown_holds : Rows.AsmKnownSaid :=
  OpenClaim.holds_of_wide 3 Tryz.f3 rfl rfl rfl rfl rfl rfl rfl ⟨rfl, rfl, rfl, rfl, rfl⟩ rfl rfl rfl rfl rfl (by kernel_rfl) Tryz.func3 (by kernel_rfl)
    (of_decide_eq_true (by kernel_rfl)) (by unfold Func.isWrapper; first | (rw [if_pos (by decide +kernel)]; kernel_rfl) | (rw [if_neg (by decide +kernel)]; exact ⟨rfl, rfl⟩))
    (fun os started H enc _ => lifted os started H enc)

theorem card_holds : Rows.AsmKnownCardSaid :=
  Claim7.holds_tied_plain_at .later [] [.data, .data, .data, .data, .sentinel, .sentinel, .pinned] true (true, "5f2b3c1c74905985859ac6a5e42434242aae55b1185728172b64fe3fd5687356") true
    asmKnown_holds (fun _ h => by cases h) (by kernel_rfl) (fun _ h => by cases h) asmKnown_row_tie rfl ⟨rfl, rfl⟩ (by kernel_rfl) rfl
    (fun f fn hf hfn => by
      obtain rfl : f = 3 := Option.some.inj ((show Tryz.prog.funcNamed "almonry/almonrylaw05.AsmKnown" = some 3 by kernel_rfl).symm.trans hf) |>.symm
      obtain rfl : fn = Tryz.f3 := (Option.some.inj (Tryz.func3.symm.trans hfn)).symm
      exact ⟨by kernel_rfl, fun j t ht => by
        rw [Tryz.params3] at ht
        cases j <;> simp at ht⟩)
    (by kernel_rfl)
#print axioms card_holds

end Go.Proofs.YtnjpahkdlffpcaaGreatDoor
end
