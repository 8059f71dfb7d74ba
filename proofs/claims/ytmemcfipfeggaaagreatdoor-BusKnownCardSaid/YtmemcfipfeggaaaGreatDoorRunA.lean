/- Part RunA: an interpreter of the program's operations over abstract memory, its laws, and what it tells of the statement. No condition. -/
import Derived.KernelRfl
import Derived.Test.YtmemcfipfeggaaaGreatDoorFnB
import Derived.Test.YtmemcfipfeggaaaGreatDoorDenD
set_option linter.unusedVariables false
set_option linter.unusedSimpArgs false
set_option linter.unusedSectionVars false
section
/- The run of 'BusKnown' by the interpreter, from the first state: it answers true. No condition. -/
open Go Go.Den
namespace Go.Den
def Ib.ptab : List (Nat × PK) := [(305, .mnz 5), (304, .noEsc)]
end Go.Den
namespace Go.Proofs.YtmemcfipfeggaaaGreatDoor
set_option maxRecDepth 100000

/-- The first state: four variables, none of which is read. -/
def st : St := ⟨4, Tr.leaf⟩

theorem runs : Den.isTrue (gfn Ib.K Ib.KD (primT Ib.ptab) 5000 noY 5 [] st) = true := by kernel_rfl

end Go.Proofs.YtmemcfipfeggaaaGreatDoor
end
