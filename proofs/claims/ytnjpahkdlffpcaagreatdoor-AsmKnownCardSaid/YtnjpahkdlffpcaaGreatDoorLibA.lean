/- Part LibA: an interpreter of the program's operations over abstract memory, its laws, and what it tells of the statement. No condition. -/
import Derived.KernelRfl
import Derived.Test.YtnjpahkdlffpcaaGreatDoorProg
import Derived.Test.YtnjpahkdlffpcaaGreatDoorRunA
set_option linter.unusedVariables false
set_option linter.unusedSimpArgs false
set_option linter.unusedSectionVars false
section
/- The library's functions without a body that the calls reach: of which kind each is. No condition. -/
open Go Go.Den
namespace Go.Proofs.YtnjpahkdlffpcaaGreatDoor
set_option maxRecDepth 100000

theorem prims : PKall Tryz.prog Ia.ptab :=
  ⟨⟨Tryz.f152, Tryz.func152, by kernel_rfl, by kernel_rfl, by kernel_rfl, show Extern.find Tryz.f152 = some Extern.BytealgIndexByte.indexByte by kernel_rfl⟩,
   ⟨Tryz.f122, Tryz.func122, by kernel_rfl, by kernel_rfl, by kernel_rfl, show Extern.find Tryz.f122 = some Extern.BytealgCount.count by kernel_rfl⟩,
   ⟨Tryz.f133, Tryz.func133, by kernel_rfl, by kernel_rfl, by kernel_rfl, #[3], 46, show Extern.find Tryz.f133 = some (Extern.BytealgMakeNoZero.makeNoZero #[3] #[46]) by kernel_rfl, by kernel_rfl, by kernel_rfl⟩,
   ⟨Tryz.f84, Tryz.func84, by kernel_rfl, by kernel_rfl, by kernel_rfl, show Extern.find Tryz.f84 = some Extern.AbiNoEscape.same by kernel_rfl⟩, trivial⟩


end Go.Proofs.YtnjpahkdlffpcaaGreatDoor
end
