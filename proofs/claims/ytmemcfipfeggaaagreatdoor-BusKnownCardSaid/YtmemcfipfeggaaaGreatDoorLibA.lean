/- Part LibA: an interpreter of the program's operations over abstract memory, its laws, and what it tells of the statement. No condition. -/
import Derived.KernelRfl
import Derived.Test.YtmemcfipfeggaaaGreatDoorProg
import Derived.Test.YtmemcfipfeggaaaGreatDoorDenD
import Derived.Test.YtmemcfipfeggaaaGreatDoorRunA
set_option linter.unusedVariables false
set_option linter.unusedSimpArgs false
set_option linter.unusedSectionVars false
section
/- The library's functions without a body that the calls reach: of which kind each is. No condition. -/
open Go Go.Den
namespace Go.Proofs.YtmemcfipfeggaaaGreatDoor
set_option maxRecDepth 100000

theorem prims : PKall Tryz.prog Ib.ptab :=
  ⟨⟨Tryz.f305, Tryz.func305, by kernel_rfl, by kernel_rfl, by kernel_rfl, #[3], 147, show Extern.find Tryz.f305 = some (Extern.BytealgMakeNoZero.makeNoZero #[3] #[147]) by kernel_rfl, by kernel_rfl, by kernel_rfl⟩,
   ⟨Tryz.f304, Tryz.func304, by kernel_rfl, by kernel_rfl, by kernel_rfl, show Extern.find Tryz.f304 = some Extern.AbiNoEscape.same by kernel_rfl⟩, trivial⟩

end Go.Proofs.YtmemcfipfeggaaaGreatDoor
end
