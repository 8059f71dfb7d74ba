/- Part ChkX: an interpreter of the program's operations over abstract memory, its laws, and what it tells of the statement. No condition. -/
import Derived.Test.YtnjpahkdlffpcaaGreatDoorProg
import Derived.KernelRfl
import Derived.Test.YtnjpahkdlffpcaaGreatDoorFnB
import Derived.Test.YtnjpahkdlffpcaaGreatDoorChkA
import Derived.Test.YtnjpahkdlffpcaaGreatDoorDenD
import Derived.Test.YtnjpahkdlffpcaaGreatDoorChkB
import Derived.Test.YtnjpahkdlffpcaaGreatDoorChkC
import Derived.Test.YtnjpahkdlffpcaaGreatDoorChkD
set_option linter.unusedVariables false
set_option linter.unusedSimpArgs false
set_option linter.unusedSectionVars false
section
open Go Go.Den Go.Proofs
set_option maxRecDepth 100000
namespace Go.Den
theorem Ia.d44 : FnIs Tryz.prog 44 Ia.i44 := FnIs.of (tabs := tabsA) Tryz.func44 (by kernel_rfl) (by kernel_rfl)
theorem Ia.Kall : TrAll (GIs Tryz.prog) Ia.tree id := ⟨trivial, ⟨trivial, ⟨Ia.c3, ⟨Ia.c7, ⟨Ia.c15, ⟨Ia.c31, ⟨Ia.c63, ⟨Ia.c127, trivial, trivial⟩, ⟨Ia.c191, trivial, trivial⟩⟩, ⟨Ia.c95, ⟨Ia.c159, trivial, trivial⟩, trivial⟩⟩, ⟨Ia.c47, ⟨Ia.c79, ⟨Ia.c143, trivial, trivial⟩, trivial⟩, ⟨Ia.c111, trivial, trivial⟩⟩⟩, ⟨Ia.c23, ⟨Ia.c39, ⟨Ia.c71, ⟨Ia.c135, trivial, trivial⟩, trivial⟩, ⟨Ia.c103, trivial, trivial⟩⟩, ⟨Ia.c55, ⟨Ia.c87, ⟨Ia.c151, trivial, trivial⟩, trivial⟩, ⟨Ia.c119, trivial, trivial⟩⟩⟩⟩, ⟨Ia.c11, ⟨Ia.c19, ⟨Ia.c35, ⟨Ia.c67, ⟨Ia.c131, trivial, trivial⟩, trivial⟩, ⟨Ia.c99, trivial, trivial⟩⟩, ⟨Ia.c51, ⟨Ia.c83, ⟨Ia.c147, trivial, trivial⟩, trivial⟩, ⟨Ia.c115, trivial, trivial⟩⟩⟩, ⟨Ia.c27, ⟨Ia.c43, ⟨Ia.c75, ⟨Ia.c139, trivial, trivial⟩, trivial⟩, ⟨Ia.c107, trivial, trivial⟩⟩, ⟨Ia.c59, ⟨Ia.c91, ⟨Ia.c155, trivial, trivial⟩, trivial⟩, ⟨Ia.c123, trivial, trivial⟩⟩⟩⟩⟩, ⟨Ia.c5, ⟨Ia.c9, ⟨Ia.c17, ⟨Ia.c33, ⟨Ia.c65, ⟨Ia.c129, trivial, trivial⟩, trivial⟩, ⟨Ia.c97, trivial, trivial⟩⟩, ⟨Ia.c49, ⟨Ia.c81, ⟨Ia.c145, trivial, trivial⟩, trivial⟩, ⟨Ia.c113, trivial, trivial⟩⟩⟩, ⟨Ia.c25, ⟨Ia.c41, ⟨Ia.c73, ⟨Ia.c137, trivial, trivial⟩, trivial⟩, ⟨Ia.c105, trivial, trivial⟩⟩, ⟨Ia.c57, ⟨Ia.c89, ⟨Ia.c153, trivial, trivial⟩, trivial⟩, ⟨Ia.c121, trivial, trivial⟩⟩⟩⟩, ⟨Ia.c13, ⟨Ia.c21, ⟨Ia.c37, ⟨Ia.c69, trivial, trivial⟩, ⟨Ia.c101, trivial, trivial⟩⟩, ⟨Ia.c53, ⟨Ia.c85, ⟨Ia.c149, trivial, trivial⟩, trivial⟩, ⟨Ia.c117, trivial, trivial⟩⟩⟩, ⟨Ia.c29, ⟨Ia.c45, ⟨Ia.c77, ⟨Ia.c141, trivial, trivial⟩, trivial⟩, ⟨Ia.c109, trivial, trivial⟩⟩, ⟨Ia.c61, ⟨Ia.c93, ⟨Ia.c157, trivial, trivial⟩, trivial⟩, ⟨Ia.c125, trivial, trivial⟩⟩⟩⟩⟩⟩, ⟨Ia.c2, ⟨Ia.c4, ⟨Ia.c8, ⟨Ia.c16, ⟨Ia.c32, ⟨Ia.c64, ⟨Ia.c128, trivial, trivial⟩, trivial⟩, ⟨Ia.c96, ⟨Ia.c160, trivial, trivial⟩, trivial⟩⟩, ⟨Ia.c48, ⟨Ia.c80, ⟨Ia.c144, trivial, trivial⟩, trivial⟩, ⟨Ia.c112, trivial, trivial⟩⟩⟩, ⟨Ia.c24, ⟨Ia.c40, ⟨Ia.c72, trivial, trivial⟩, ⟨Ia.c104, trivial, trivial⟩⟩, ⟨Ia.c56, ⟨Ia.c88, trivial, trivial⟩, trivial⟩⟩⟩, ⟨Ia.c12, ⟨Ia.c20, ⟨Ia.c36, ⟨Ia.c68, ⟨Ia.c132, trivial, trivial⟩, trivial⟩, ⟨Ia.c100, trivial, trivial⟩⟩, ⟨Ia.c52, ⟨trivial, ⟨Ia.c148, trivial, trivial⟩, trivial⟩, ⟨Ia.c116, trivial, trivial⟩⟩⟩, ⟨Ia.c28, ⟨Ia.c44, ⟨Ia.c76, ⟨Ia.c140, trivial, trivial⟩, trivial⟩, ⟨Ia.c108, trivial, trivial⟩⟩, ⟨Ia.c60, ⟨Ia.c92, ⟨Ia.c156, trivial, trivial⟩, trivial⟩, ⟨Ia.c124, trivial, trivial⟩⟩⟩⟩⟩, ⟨Ia.c6, ⟨Ia.c10, ⟨Ia.c18, ⟨Ia.c34, ⟨Ia.c66, ⟨Ia.c130, trivial, trivial⟩, trivial⟩, ⟨Ia.c98, trivial, trivial⟩⟩, ⟨Ia.c50, ⟨Ia.c82, ⟨Ia.c146, trivial, trivial⟩, trivial⟩, ⟨Ia.c114, trivial, trivial⟩⟩⟩, ⟨Ia.c26, ⟨Ia.c42, ⟨Ia.c74, ⟨Ia.c138, trivial, trivial⟩, trivial⟩, ⟨Ia.c106, trivial, trivial⟩⟩, ⟨Ia.c58, ⟨Ia.c90, ⟨Ia.c154, trivial, trivial⟩, trivial⟩, trivial⟩⟩⟩, ⟨Ia.c14, ⟨Ia.c22, ⟨Ia.c38, ⟨Ia.c70, ⟨Ia.c134, trivial, trivial⟩, trivial⟩, ⟨Ia.c102, trivial, trivial⟩⟩, ⟨Ia.c54, ⟨Ia.c86, ⟨Ia.c150, trivial, trivial⟩, trivial⟩, ⟨Ia.c118, trivial, trivial⟩⟩⟩, ⟨Ia.c30, ⟨Ia.c46, ⟨Ia.c78, ⟨Ia.c142, trivial, trivial⟩, trivial⟩, ⟨Ia.c110, trivial, trivial⟩⟩, ⟨Ia.c62, ⟨Ia.c94, ⟨Ia.c158, trivial, trivial⟩, trivial⟩, ⟨Ia.c126, trivial, trivial⟩⟩⟩⟩⟩⟩⟩
theorem Ia.KDall : TrAll (FnIs Tryz.prog) Ia.dtree id := ⟨trivial, trivial, ⟨trivial, ⟨trivial, trivial, ⟨trivial, trivial, ⟨trivial, ⟨Ia.d44, trivial, trivial⟩, trivial⟩⟩⟩, trivial⟩⟩
theorem Ia.Kis {f : Nat} {g : GF} (h : Ia.K f = some g) : GIs Tryz.prog f g := TrAll.get Ia.Kall h
theorem Ia.KDis {f : Nat} {g : F} (h : Ia.KD f = some g) : FnIs Tryz.prog f g := TrAll.get Ia.KDall h
end Go.Den
end
