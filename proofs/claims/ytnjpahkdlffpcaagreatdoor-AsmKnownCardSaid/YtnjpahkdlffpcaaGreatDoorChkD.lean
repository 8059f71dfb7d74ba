/- Part ChkD: an interpreter of the program's operations over abstract memory, its laws, and what it tells of the statement. No condition. -/
import Derived.Test.YtnjpahkdlffpcaaGreatDoorProg
import Derived.KernelRfl
import Derived.Test.YtnjpahkdlffpcaaGreatDoorFnB
import Derived.Test.YtnjpahkdlffpcaaGreatDoorChkA
import Derived.Test.YtnjpahkdlffpcaaGreatDoorDenD
set_option linter.unusedVariables false
set_option linter.unusedSimpArgs false
set_option linter.unusedSectionVars false
section
open Go Go.Den Go.Proofs
set_option maxRecDepth 100000
namespace Go.Den
theorem Ia.c5 : GIs Tryz.prog 5 Ia.g5 := GIs.t_of (tabs := tabsA) (sl := []) (ks := [0]) (m := 0) Tryz.func5 (by kernel_rfl) (by kernel_rfl)
theorem Ia.c9 : GIs Tryz.prog 9 Ia.g9 := GIs.t_of (tabs := tabsA) (sl := []) (ks := [2, 3]) (m := 1) Tryz.func9 (by kernel_rfl) (by kernel_rfl)
theorem Ia.c13 : GIs Tryz.prog 13 Ia.g13 := GIs.h_of (tabs := tabsA) (sl := []) (m := 1) Tryz.func13 (by kernel_rfl) (by kernel_rfl)
theorem Ia.c17 : GIs Tryz.prog 17 Ia.g17 := GIs.t_of (tabs := tabsA) (sl := []) (ks := [4]) (m := 2) Tryz.func17 (by kernel_rfl) (by kernel_rfl)
theorem Ia.c21 : GIs Tryz.prog 21 Ia.g21 := GIs.t_of (tabs := tabsA) (sl := []) (ks := [2]) (m := 1) Tryz.func21 (by kernel_rfl) (by kernel_rfl)
theorem Ia.c25 : GIs Tryz.prog 25 Ia.g25 := GIs.h_of (tabs := tabsA) (sl := []) (m := 0) Tryz.func25 (by kernel_rfl) (by kernel_rfl)
theorem Ia.c29 : GIs Tryz.prog 29 Ia.g29 := GIs.t_of (tabs := tabsA) (sl := []) (ks := [2]) (m := 1) Tryz.func29 (by kernel_rfl) (by kernel_rfl)
theorem Ia.c33 : GIs Tryz.prog 33 Ia.g33 := GIs.h_of (tabs := tabsA) (sl := []) (m := 2) Tryz.func33 (by kernel_rfl) (by kernel_rfl)
theorem Ia.c37 : GIs Tryz.prog 37 Ia.g37 := GIs.h_of (tabs := tabsA) (sl := []) (m := 1) Tryz.func37 (by kernel_rfl) (by kernel_rfl)
theorem Ia.c41 : GIs Tryz.prog 41 Ia.g41 := GIs.h_of (tabs := tabsA) (sl := []) (m := 1) Tryz.func41 (by kernel_rfl) (by kernel_rfl)
theorem Ia.c45 : GIs Tryz.prog 45 Ia.g45 := GIs.h_of (tabs := tabsA) (sl := []) (m := 1) Tryz.func45 (by kernel_rfl) (by kernel_rfl)
theorem Ia.c49 : GIs Tryz.prog 49 Ia.g49 := GIs.t_of (tabs := tabsA) (sl := []) (ks := [8]) (m := 4) Tryz.func49 (by kernel_rfl) (by kernel_rfl)
theorem Ia.c53 : GIs Tryz.prog 53 Ia.g53 := GIs.t_of (tabs := tabsA) (sl := []) (ks := [4]) (m := 2) Tryz.func53 (by kernel_rfl) (by kernel_rfl)
theorem Ia.c57 : GIs Tryz.prog 57 Ia.g57 := GIs.t_of (tabs := tabsA) (sl := []) (ks := [2]) (m := 1) Tryz.func57 (by kernel_rfl) (by kernel_rfl)
theorem Ia.c61 : GIs Tryz.prog 61 Ia.g61 := GIs.t_of (tabs := tabsA) (sl := []) (ks := [2]) (m := 1) Tryz.func61 (by kernel_rfl) (by kernel_rfl)
theorem Ia.c65 : GIs Tryz.prog 65 Ia.g65 := GIs.t_of (tabs := tabsA) (sl := []) (ks := [4, 5, 6]) (m := 2) Tryz.func65 (by kernel_rfl) (by kernel_rfl)
theorem Ia.c69 : GIs Tryz.prog 69 Ia.g69 := GIs.h_of (tabs := tabsA) (sl := []) (m := 0) Tryz.func69 (by kernel_rfl) (by kernel_rfl)
theorem Ia.c73 : GIs Tryz.prog 73 Ia.g73 := GIs.h_of (tabs := tabsA) (sl := []) (m := 0) Tryz.func73 (by kernel_rfl) (by kernel_rfl)
theorem Ia.c77 : GIs Tryz.prog 77 Ia.g77 := GIs.h_of (tabs := tabsA) (sl := []) (m := 0) Tryz.func77 (by kernel_rfl) (by kernel_rfl)
theorem Ia.c81 : GIs Tryz.prog 81 Ia.g81 := GIs.t_of (tabs := tabsA) (sl := []) (ks := [4]) (m := 2) Tryz.func81 (by kernel_rfl) (by kernel_rfl)
theorem Ia.c86 : GIs Tryz.prog 86 Ia.g86 := GIs.t_of (tabs := tabsA) (sl := []) (ks := [4, 5, 6]) (m := 2) Tryz.func86 (by kernel_rfl) (by kernel_rfl)
theorem Ia.c90 : GIs Tryz.prog 90 Ia.g90 := GIs.t_of (tabs := tabsA) (sl := []) (ks := [2]) (m := 1) Tryz.func90 (by kernel_rfl) (by kernel_rfl)
theorem Ia.c94 : GIs Tryz.prog 94 Ia.g94 := GIs.t_of (tabs := tabsA) (sl := []) (ks := [2, 3]) (m := 1) Tryz.func94 (by kernel_rfl) (by kernel_rfl)
theorem Ia.c98 : GIs Tryz.prog 98 Ia.g98 := GIs.t_of (tabs := tabsA) (sl := [4]) (ks := []) (m := 2) Tryz.func98 (by kernel_rfl) (by kernel_rfl)
theorem Ia.c102 : GIs Tryz.prog 102 Ia.g102 := GIs.t_of (tabs := tabsA) (sl := []) (ks := [2]) (m := 1) Tryz.func102 (by kernel_rfl) (by kernel_rfl)
theorem Ia.c106 : GIs Tryz.prog 106 Ia.g106 := GIs.t_of (tabs := tabsA) (sl := []) (ks := [2]) (m := 1) Tryz.func106 (by kernel_rfl) (by kernel_rfl)
theorem Ia.c110 : GIs Tryz.prog 110 Ia.g110 := GIs.t_of (tabs := tabsA) (sl := []) (ks := []) (m := 2) Tryz.func110 (by kernel_rfl) (by kernel_rfl)
theorem Ia.c114 : GIs Tryz.prog 114 Ia.g114 := GIs.t_of (tabs := tabsA) (sl := []) (ks := []) (m := 2) Tryz.func114 (by kernel_rfl) (by kernel_rfl)
theorem Ia.c118 : GIs Tryz.prog 118 Ia.g118 := GIs.t_of (tabs := tabsA) (sl := [4]) (ks := []) (m := 2) Tryz.func118 (by kernel_rfl) (by kernel_rfl)
theorem Ia.c124 : GIs Tryz.prog 124 Ia.g124 := GIs.t_of (tabs := tabsA) (sl := []) (ks := [6, 7]) (m := 3) Tryz.func124 (by kernel_rfl) (by kernel_rfl)
theorem Ia.c128 : GIs Tryz.prog 128 Ia.g128 := GIs.t_of (tabs := tabsA) (sl := []) (ks := []) (m := 2) Tryz.func128 (by kernel_rfl) (by kernel_rfl)
theorem Ia.c132 : GIs Tryz.prog 132 Ia.g132 := GIs.t_of (tabs := tabsA) (sl := []) (ks := [4, 5]) (m := 2) Tryz.func132 (by kernel_rfl) (by kernel_rfl)
theorem Ia.c138 : GIs Tryz.prog 138 Ia.g138 := GIs.t_of (tabs := tabsA) (sl := []) (ks := [4]) (m := 2) Tryz.func138 (by kernel_rfl) (by kernel_rfl)
theorem Ia.c142 : GIs Tryz.prog 142 Ia.g142 := GIs.t_of (tabs := tabsA) (sl := []) (ks := [6]) (m := 3) Tryz.func142 (by kernel_rfl) (by kernel_rfl)
theorem Ia.c146 : GIs Tryz.prog 146 Ia.g146 := GIs.t_of (tabs := tabsA) (sl := []) (ks := [2]) (m := 1) Tryz.func146 (by kernel_rfl) (by kernel_rfl)
theorem Ia.c150 : GIs Tryz.prog 150 Ia.g150 := GIs.t_of (tabs := tabsA) (sl := []) (ks := [4, 5]) (m := 2) Tryz.func150 (by kernel_rfl) (by kernel_rfl)
theorem Ia.c155 : GIs Tryz.prog 155 Ia.g155 := GIs.t_of (tabs := tabsA) (sl := []) (ks := [2]) (m := 1) Tryz.func155 (by kernel_rfl) (by kernel_rfl)
theorem Ia.c159 : GIs Tryz.prog 159 Ia.g159 := GIs.t_of (tabs := tabsA) (sl := []) (ks := [2]) (m := 1) Tryz.func159 (by kernel_rfl) (by kernel_rfl)
end Go.Den
end
