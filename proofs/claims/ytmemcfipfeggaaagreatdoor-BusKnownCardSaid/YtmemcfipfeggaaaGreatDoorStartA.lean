/- Part StartA: an interpreter of the program's operations over abstract memory, its laws, and what it tells of the statement. No condition. -/
import Derived.Test.YtmemcfipfeggaaaGreatDoorRows
import Derived.ProofKit
import Derived.MakeChecks
import Derived.Test.YtmemcfipfeggaaaGreatDoorRunA
import Derived.Test.YtmemcfipfeggaaaGreatDoorLibA
import Derived.Test.YtmemcfipfeggaaaGreatDoorChkX
set_option linter.unusedVariables false
set_option linter.unusedSimpArgs false
set_option linter.unusedSectionVars false
section
/- The interpreter's first state, whatever the memory; the call answers true. No condition. -/
open Go Go.Den
namespace Go.Proofs.YtmemcfipfeggaaaGreatDoor
open Go.ChangeShapes Go.WideShapes Go.ChangeAt Go.WideMaps Go.WideElems Go.RowKit
set_option maxRecDepth 100000

theorem size4 : Tryz.prog.globals.size = 4 := by kernel_rfl
theorem funcs_few : Tryz.prog.funcs.size ≤ yBase := Nat.le_of_ble_eq_true (by kernel_rfl)

abbrev lst : List (String × DataW Unit) := Rows.busKnownRow.laid

theorem st_at (i : Nat) : st.at i = none := by
  show (Tr.leaf : Tr Blk).get i = none
  cases i <;> rfl

/-- Nothing that was laid is read: the first relation holds in every memory. -/
theorem start (W : World) : @Rep Tryz.prog (Gh.of W) (fun i => if i < 4 then some ⟨i, 0, 0⟩ else none) st W := by
  refine Rep.start (fun {i l} hi => ?_) (fun {i o} ho => ?_) (fun {i l o} hi ho => ?_) (fun g hg => ?_)
  · show i < 4
    replace hi : (if i < 4 then some (⟨i, 0, 0⟩ : Den.Loc) else none) = some l := hi
    split at hi
    · assumption
    · cases hi
  · rw [st_at] at ho; cases ho
  · rw [st_at] at ho; cases ho
  · rw [size4] at hg
    simp [hg]

/-- The call, in whatever memory. -/
theorem walk (W : World) : Calls Tryz.prog 5 #[] W fun e W' => e = .returned (.bool true) ∧ Kept W W' := by
  have hrep := start W
  obtain ⟨τ, hτ⟩ := Den.isTrue_spec runs
  have hc : @CallOK (Gh.of W) Tryz.prog (gfn Ib.K Ib.KD (primT Ib.ptab) 5000 noY) :=
    letI : Gh := Gh.of W
    gfn_sim funcs_few (fun _ _ => Ib.Kis) (fun _ _ => Ib.KDis) (fun G => @primT_ok G _ funcs_few _ prims) 5000 (Gh.of W) noY (@noY_ok Tryz.prog (Gh.of W))
  refine (calls_of hc funcs_few Tryz.func5 (by kernel_rfl) (by kernel_rfl) hτ (xs := []) (by simp [gams]) hrep).mono ?_
  rintro e W' ⟨x, rfl, ⟨κ, _, hx⟩, hk⟩
  simp [gam] at hx
  subst hx
  exact ⟨rfl, hk⟩

end Go.Proofs.YtmemcfipfeggaaaGreatDoor
end
