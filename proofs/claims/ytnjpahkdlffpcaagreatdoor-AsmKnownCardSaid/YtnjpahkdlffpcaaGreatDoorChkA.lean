/- Part ChkA: an interpreter of the program's operations over abstract memory, its laws, and what it tells of the statement. No condition. -/
import Derived.Test.YtnjpahkdlffpcaaGreatDoorProg
import Derived.KernelRfl
import Derived.Test.YtnjpahkdlffpcaaGreatDoorDenD
import Derived.Test.YtnjpahkdlffpcaaGreatDoorFnB
set_option linter.unusedVariables false
set_option linter.unusedSimpArgs false
set_option linter.unusedSectionVars false
section
namespace Go.Den
def tabsA : String → List Nat := fun s => match s with
  | "==" => [140]
  | _ => []
end Go.Den
end

section
open Go Go.Den Go.Proofs
set_option maxRecDepth 100000
namespace Go.Den
theorem Ia.c2 : GIs Tryz.prog 2 Ia.g2 := GIs.t_of (tabs := tabsA) (sl := []) (ks := []) (m := 0) Tryz.func2 (by kernel_rfl) (by kernel_rfl)
theorem Ia.c6 : GIs Tryz.prog 6 Ia.g6 := GIs.t_of (tabs := tabsA) (sl := []) (ks := [4]) (m := 2) Tryz.func6 (by kernel_rfl) (by kernel_rfl)
theorem Ia.c10 : GIs Tryz.prog 10 Ia.g10 := GIs.t_of (tabs := tabsA) (sl := []) (ks := [2, 3]) (m := 1) Tryz.func10 (by kernel_rfl) (by kernel_rfl)
theorem Ia.c14 : GIs Tryz.prog 14 Ia.g14 := GIs.t_of (tabs := tabsA) (sl := []) (ks := [4]) (m := 2) Tryz.func14 (by kernel_rfl) (by kernel_rfl)
theorem Ia.c18 : GIs Tryz.prog 18 Ia.g18 := GIs.t_of (tabs := tabsA) (sl := []) (ks := [4, 5]) (m := 2) Tryz.func18 (by kernel_rfl) (by kernel_rfl)
theorem Ia.c22 : GIs Tryz.prog 22 Ia.g22 := GIs.t_of (tabs := tabsA) (sl := []) (ks := [2]) (m := 1) Tryz.func22 (by kernel_rfl) (by kernel_rfl)
theorem Ia.c26 : GIs Tryz.prog 26 Ia.g26 := GIs.t_of (tabs := tabsA) (sl := []) (ks := [4]) (m := 2) Tryz.func26 (by kernel_rfl) (by kernel_rfl)
theorem Ia.c30 : GIs Tryz.prog 30 Ia.g30 := GIs.t_of (tabs := tabsA) (sl := []) (ks := [6]) (m := 3) Tryz.func30 (by kernel_rfl) (by kernel_rfl)
theorem Ia.c34 : GIs Tryz.prog 34 Ia.g34 := GIs.h_of (tabs := tabsA) (sl := []) (m := 2) Tryz.func34 (by kernel_rfl) (by kernel_rfl)
theorem Ia.c38 : GIs Tryz.prog 38 Ia.g38 := GIs.h_of (tabs := tabsA) (sl := []) (m := 1) Tryz.func38 (by kernel_rfl) (by kernel_rfl)
theorem Ia.c42 : GIs Tryz.prog 42 Ia.g42 := GIs.h_of (tabs := tabsA) (sl := []) (m := 1) Tryz.func42 (by kernel_rfl) (by kernel_rfl)
theorem Ia.c46 : GIs Tryz.prog 46 Ia.g46 := GIs.t_of (tabs := tabsA) (sl := []) (ks := [2]) (m := 1) Tryz.func46 (by kernel_rfl) (by kernel_rfl)
theorem Ia.c50 : GIs Tryz.prog 50 Ia.g50 := GIs.t_of (tabs := tabsA) (sl := []) (ks := []) (m := 1) Tryz.func50 (by kernel_rfl) (by kernel_rfl)
theorem Ia.c54 : GIs Tryz.prog 54 Ia.g54 := GIs.t_of (tabs := tabsA) (sl := []) (ks := [2]) (m := 1) Tryz.func54 (by kernel_rfl) (by kernel_rfl)
theorem Ia.c58 : GIs Tryz.prog 58 Ia.g58 := GIs.t_of (tabs := tabsA) (sl := []) (ks := [2]) (m := 1) Tryz.func58 (by kernel_rfl) (by kernel_rfl)
theorem Ia.c62 : GIs Tryz.prog 62 Ia.g62 := GIs.h_of (tabs := tabsA) (sl := []) (m := 4) Tryz.func62 (by kernel_rfl) (by kernel_rfl)
theorem Ia.c66 : GIs Tryz.prog 66 Ia.g66 := GIs.t_of (tabs := tabsA) (sl := []) (ks := [2]) (m := 1) Tryz.func66 (by kernel_rfl) (by kernel_rfl)
theorem Ia.c70 : GIs Tryz.prog 70 Ia.g70 := GIs.h_of (tabs := tabsA) (sl := []) (m := 0) Tryz.func70 (by kernel_rfl) (by kernel_rfl)
theorem Ia.c74 : GIs Tryz.prog 74 Ia.g74 := GIs.h_of (tabs := tabsA) (sl := []) (m := 0) Tryz.func74 (by kernel_rfl) (by kernel_rfl)
theorem Ia.c78 : GIs Tryz.prog 78 Ia.g78 := GIs.h_of (tabs := tabsA) (sl := []) (m := 0) Tryz.func78 (by kernel_rfl) (by kernel_rfl)
theorem Ia.c82 : GIs Tryz.prog 82 Ia.g82 := GIs.t_of (tabs := tabsA) (sl := []) (ks := [4]) (m := 2) Tryz.func82 (by kernel_rfl) (by kernel_rfl)
theorem Ia.c87 : GIs Tryz.prog 87 Ia.g87 := GIs.t_of (tabs := tabsA) (sl := []) (ks := [6, 7]) (m := 3) Tryz.func87 (by kernel_rfl) (by kernel_rfl)
theorem Ia.c91 : GIs Tryz.prog 91 Ia.g91 := GIs.t_of (tabs := tabsA) (sl := []) (ks := [4]) (m := 2) Tryz.func91 (by kernel_rfl) (by kernel_rfl)
theorem Ia.c95 : GIs Tryz.prog 95 Ia.g95 := GIs.t_of (tabs := tabsA) (sl := []) (ks := [2]) (m := 1) Tryz.func95 (by kernel_rfl) (by kernel_rfl)
theorem Ia.c99 : GIs Tryz.prog 99 Ia.g99 := GIs.t_of (tabs := tabsA) (sl := []) (ks := [2]) (m := 1) Tryz.func99 (by kernel_rfl) (by kernel_rfl)
theorem Ia.c103 : GIs Tryz.prog 103 Ia.g103 := GIs.t_of (tabs := tabsA) (sl := [4]) (ks := []) (m := 2) Tryz.func103 (by kernel_rfl) (by kernel_rfl)
theorem Ia.c107 : GIs Tryz.prog 107 Ia.g107 := GIs.t_of (tabs := tabsA) (sl := []) (ks := [2]) (m := 1) Tryz.func107 (by kernel_rfl) (by kernel_rfl)
theorem Ia.c111 : GIs Tryz.prog 111 Ia.g111 := GIs.t_of (tabs := tabsA) (sl := []) (ks := [2]) (m := 1) Tryz.func111 (by kernel_rfl) (by kernel_rfl)
theorem Ia.c115 : GIs Tryz.prog 115 Ia.g115 := GIs.t_of (tabs := tabsA) (sl := []) (ks := [2]) (m := 1) Tryz.func115 (by kernel_rfl) (by kernel_rfl)
theorem Ia.c119 : GIs Tryz.prog 119 Ia.g119 := GIs.t_of (tabs := tabsA) (sl := []) (ks := []) (m := 2) Tryz.func119 (by kernel_rfl) (by kernel_rfl)
theorem Ia.c125 : GIs Tryz.prog 125 Ia.g125 := GIs.t_of (tabs := tabsA) (sl := []) (ks := [10]) (m := 5) Tryz.func125 (by kernel_rfl) (by kernel_rfl)
theorem Ia.c129 : GIs Tryz.prog 129 Ia.g129 := GIs.t_of (tabs := tabsA) (sl := []) (ks := [10, 11]) (m := 5) Tryz.func129 (by kernel_rfl) (by kernel_rfl)
theorem Ia.c134 : GIs Tryz.prog 134 Ia.g134 := GIs.t_of (tabs := tabsA) (sl := []) (ks := [2, 3]) (m := 1) Tryz.func134 (by kernel_rfl) (by kernel_rfl)
theorem Ia.c139 : GIs Tryz.prog 139 Ia.g139 := GIs.t_of (tabs := tabsA) (sl := []) (ks := [6, 7]) (m := 3) Tryz.func139 (by kernel_rfl) (by kernel_rfl)
theorem Ia.c143 : GIs Tryz.prog 143 Ia.g143 := GIs.t_of (tabs := tabsA) (sl := []) (ks := [6]) (m := 3) Tryz.func143 (by kernel_rfl) (by kernel_rfl)
theorem Ia.c147 : GIs Tryz.prog 147 Ia.g147 := GIs.t_of (tabs := tabsA) (sl := []) (ks := [2]) (m := 1) Tryz.func147 (by kernel_rfl) (by kernel_rfl)
theorem Ia.c151 : GIs Tryz.prog 151 Ia.g151 := GIs.t_of (tabs := tabsA) (sl := []) (ks := [4, 5]) (m := 2) Tryz.func151 (by kernel_rfl) (by kernel_rfl)
theorem Ia.c156 : GIs Tryz.prog 156 Ia.g156 := GIs.t_of (tabs := tabsA) (sl := []) (ks := [2]) (m := 1) Tryz.func156 (by kernel_rfl) (by kernel_rfl)
theorem Ia.c160 : GIs Tryz.prog 160 Ia.g160 := GIs.t_of (tabs := tabsA) (sl := []) (ks := [4]) (m := 2) Tryz.func160 (by kernel_rfl) (by kernel_rfl)
end Go.Den
end
