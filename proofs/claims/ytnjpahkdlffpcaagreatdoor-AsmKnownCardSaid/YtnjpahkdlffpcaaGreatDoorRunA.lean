/- Part RunA: an interpreter of the program's operations over abstract memory, its laws, and what it tells of the statement. No condition. -/
import Derived.KernelRfl
import Derived.Test.YtnjpahkdlffpcaaGreatDoorFnB
import Derived.Test.YtnjpahkdlffpcaaGreatDoorDenD
set_option linter.unusedVariables false
set_option linter.unusedSimpArgs false
set_option linter.unusedSectionVars false
section
/- The first state of the calls: the variables of the project and of the library that are read. -/
namespace Go.Den
def Ia.ptab : List (Nat × PK) := [(152, .idxB), (122, .cntB), (133, .mnz 5), (84, .noEsc)]
end Go.Den
end

section
/- The run of 'AsmKnown' by the interpreter, from the first state: it answers true. No condition. -/
open Go Go.Den
namespace Go.Proofs.YtnjpahkdlffpcaaGreatDoor
set_option maxRecDepth 100000

def pow10 : List Int := [1, 10, 100, 1000, 10000, 100000, 1000000, 10000000, 100000000, 1000000000, 10000000000, 100000000000, 1000000000000, 10000000000000, 100000000000000, 1000000000000000, 10000000000000000, 100000000000000000, 1000000000000000000, 10000000000000000000]
def rangeS : List UInt8 := [118, 97, 108, 117, 101, 32, 111, 117, 116, 32, 111, 102, 32, 114, 97, 110, 103, 101]
def syntaxS : List UInt8 := [105, 110, 118, 97, 108, 105, 100, 32, 115, 121, 110, 116, 97, 120]

/-- The first state; the types of the blocks, as they are. -/
def st (t1 t4 t5 t8 t9 : Nat) : St := ⟨10, ((((((Tr.leaf : Tr Blk).set 1 (some (.row (pow10.map (V.int .u64)) t1 0 0 true))).set 4 (some (.row [.iface 162 (.ptr (some (8, 0)))] t4 0 0 true))).set 8 (some (.row [.str syntaxS] t8 0 0 true))).set 5 (some (.row [.iface 162 (.ptr (some (9, 0)))] t5 0 0 true))).set 9 (some (.row [.str rangeS] t9 0 0 true)))⟩

theorem runs (t1 t4 t5 t8 t9 : Nat) : Den.isTrue (gfn Ia.K Ia.KD (primT Ia.ptab) 5000 noY 3 [] (st t1 t4 t5 t8 t9)) = true := by kernel_rfl

end Go.Proofs.YtnjpahkdlffpcaaGreatDoor
end
