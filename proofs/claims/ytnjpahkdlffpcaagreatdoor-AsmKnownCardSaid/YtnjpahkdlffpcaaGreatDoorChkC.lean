/- Part ChkC: an interpreter of the program's operations over abstract memory, its laws, and what it tells of the statement. No condition. -/
import Derived.Test.YtnjpahkdlffpcaaGreatDoorProg
import Derived.KernelRfl
import Derived.Test.YtnjpahkdlffpcaaGreatDoorFnB
import Derived.Test.YtnjpahkdlffpcaaGreatDoorChkA
import Derived.Test.YtnjpahkdlffpcaaGreatDoorDenD
set_option linter.unusedVariables false
set_option linter.unusedSimpArgs false
set_option linter.unusedSectionVars false
section
open Go Go.Den Go.Proofs
set_option maxRecDepth 100000
namespace Go.Den
theorem Ia.c4 : GIs Tryz.prog 4 Ia.g4 := GIs.t_of (tabs := tabsA) (sl := []) (ks := [4]) (m := 2) Tryz.func4 (by kernel_rfl) (by kernel_rfl)
theorem Ia.c8 : GIs Tryz.prog 8 Ia.g8 := GIs.t_of (tabs := tabsA) (sl := []) (ks := [2, 3, 4]) (m := 1) Tryz.func8 (by kernel_rfl) (by kernel_rfl)
theorem Ia.c12 : GIs Tryz.prog 12 Ia.g12 := GIs.t_of (tabs := tabsA) (sl := []) (ks := [4]) (m := 2) Tryz.func12 (by kernel_rfl) (by kernel_rfl)
theorem Ia.c16 : GIs Tryz.prog 16 Ia.g16 := GIs.t_of (tabs := tabsA) (sl := []) (ks := [2, 3]) (m := 1) Tryz.func16 (by kernel_rfl) (by kernel_rfl)
theorem Ia.c20 : GIs Tryz.prog 20 Ia.g20 := GIs.t_of (tabs := tabsA) (sl := []) (ks := [2]) (m := 1) Tryz.func20 (by kernel_rfl) (by kernel_rfl)
theorem Ia.c24 : GIs Tryz.prog 24 Ia.g24 := GIs.t_of (tabs := tabsA) (sl := []) (ks := [8]) (m := 4) Tryz.func24 (by kernel_rfl) (by kernel_rfl)
theorem Ia.c28 : GIs Tryz.prog 28 Ia.g28 := GIs.h_of (tabs := tabsA) (sl := []) (m := 2) Tryz.func28 (by kernel_rfl) (by kernel_rfl)
theorem Ia.c32 : GIs Tryz.prog 32 Ia.g32 := GIs.t_of (tabs := tabsA) (sl := []) (ks := [2]) (m := 1) Tryz.func32 (by kernel_rfl) (by kernel_rfl)
theorem Ia.c36 : GIs Tryz.prog 36 Ia.g36 := GIs.h_of (tabs := tabsA) (sl := []) (m := 1) Tryz.func36 (by kernel_rfl) (by kernel_rfl)
theorem Ia.c40 : GIs Tryz.prog 40 Ia.g40 := GIs.h_of (tabs := tabsA) (sl := []) (m := 1) Tryz.func40 (by kernel_rfl) (by kernel_rfl)
theorem Ia.c44 : GIs Tryz.prog 44 Ia.g44 := GIs.t_of (tabs := tabsA) (sl := []) (ks := []) (m := 2) Tryz.func44 (by kernel_rfl) (by kernel_rfl)
theorem Ia.c48 : GIs Tryz.prog 48 Ia.g48 := GIs.t_of (tabs := tabsA) (sl := []) (ks := [4]) (m := 2) Tryz.func48 (by kernel_rfl) (by kernel_rfl)
theorem Ia.c52 : GIs Tryz.prog 52 Ia.g52 := GIs.h_of (tabs := tabsA) (sl := []) (m := 1) Tryz.func52 (by kernel_rfl) (by kernel_rfl)
theorem Ia.c56 : GIs Tryz.prog 56 Ia.g56 := GIs.t_of (tabs := tabsA) (sl := []) (ks := [4]) (m := 2) Tryz.func56 (by kernel_rfl) (by kernel_rfl)
theorem Ia.c60 : GIs Tryz.prog 60 Ia.g60 := GIs.h_of (tabs := tabsA) (sl := []) (m := 3) Tryz.func60 (by kernel_rfl) (by kernel_rfl)
theorem Ia.c64 : GIs Tryz.prog 64 Ia.g64 := GIs.h_of (tabs := tabsA) (sl := []) (m := 2) Tryz.func64 (by kernel_rfl) (by kernel_rfl)
theorem Ia.c68 : GIs Tryz.prog 68 Ia.g68 := GIs.h_of (tabs := tabsA) (sl := []) (m := 0) Tryz.func68 (by kernel_rfl) (by kernel_rfl)
theorem Ia.c72 : GIs Tryz.prog 72 Ia.g72 := GIs.h_of (tabs := tabsA) (sl := []) (m := 0) Tryz.func72 (by kernel_rfl) (by kernel_rfl)
theorem Ia.c76 : GIs Tryz.prog 76 Ia.g76 := GIs.h_of (tabs := tabsA) (sl := []) (m := 0) Tryz.func76 (by kernel_rfl) (by kernel_rfl)
theorem Ia.c80 : GIs Tryz.prog 80 Ia.g80 := GIs.t_of (tabs := tabsA) (sl := []) (ks := []) (m := 2) Tryz.func80 (by kernel_rfl) (by kernel_rfl)
theorem Ia.c85 : GIs Tryz.prog 85 Ia.g85 := GIs.h_of (tabs := tabsA) (sl := []) (m := 0) Tryz.func85 (by kernel_rfl) (by kernel_rfl)
theorem Ia.c89 : GIs Tryz.prog 89 Ia.g89 := GIs.t_of (tabs := tabsA) (sl := []) (ks := [2]) (m := 1) Tryz.func89 (by kernel_rfl) (by kernel_rfl)
theorem Ia.c93 : GIs Tryz.prog 93 Ia.g93 := GIs.t_of (tabs := tabsA) (sl := []) (ks := [2]) (m := 1) Tryz.func93 (by kernel_rfl) (by kernel_rfl)
theorem Ia.c97 : GIs Tryz.prog 97 Ia.g97 := GIs.t_of (tabs := tabsA) (sl := []) (ks := [2]) (m := 1) Tryz.func97 (by kernel_rfl) (by kernel_rfl)
theorem Ia.c101 : GIs Tryz.prog 101 Ia.g101 := GIs.t_of (tabs := tabsA) (sl := []) (ks := [2]) (m := 1) Tryz.func101 (by kernel_rfl) (by kernel_rfl)
theorem Ia.c105 : GIs Tryz.prog 105 Ia.g105 := GIs.t_of (tabs := tabsA) (sl := [4]) (ks := []) (m := 2) Tryz.func105 (by kernel_rfl) (by kernel_rfl)
theorem Ia.c109 : GIs Tryz.prog 109 Ia.g109 := GIs.t_of (tabs := tabsA) (sl := []) (ks := [2]) (m := 1) Tryz.func109 (by kernel_rfl) (by kernel_rfl)
theorem Ia.c113 : GIs Tryz.prog 113 Ia.g113 := GIs.t_of (tabs := tabsA) (sl := []) (ks := [2]) (m := 1) Tryz.func113 (by kernel_rfl) (by kernel_rfl)
theorem Ia.c117 : GIs Tryz.prog 117 Ia.g117 := GIs.t_of (tabs := tabsA) (sl := []) (ks := [2]) (m := 1) Tryz.func117 (by kernel_rfl) (by kernel_rfl)
theorem Ia.c123 : GIs Tryz.prog 123 Ia.g123 := GIs.t_of (tabs := tabsA) (sl := []) (ks := [4]) (m := 2) Tryz.func123 (by kernel_rfl) (by kernel_rfl)
theorem Ia.c127 : GIs Tryz.prog 127 Ia.g127 := GIs.t_of (tabs := tabsA) (sl := []) (ks := [2]) (m := 1) Tryz.func127 (by kernel_rfl) (by kernel_rfl)
theorem Ia.c131 : GIs Tryz.prog 131 Ia.g131 := GIs.t_of (tabs := tabsA) (sl := []) (ks := [4, 5]) (m := 2) Tryz.func131 (by kernel_rfl) (by kernel_rfl)
theorem Ia.c137 : GIs Tryz.prog 137 Ia.g137 := GIs.t_of (tabs := tabsA) (sl := []) (ks := [2]) (m := 1) Tryz.func137 (by kernel_rfl) (by kernel_rfl)
theorem Ia.c141 : GIs Tryz.prog 141 Ia.g141 := GIs.t_of (tabs := tabsA) (sl := []) (ks := [4]) (m := 2) Tryz.func141 (by kernel_rfl) (by kernel_rfl)
theorem Ia.c145 : GIs Tryz.prog 145 Ia.g145 := GIs.t_of (tabs := tabsA) (sl := []) (ks := [2]) (m := 1) Tryz.func145 (by kernel_rfl) (by kernel_rfl)
theorem Ia.c149 : GIs Tryz.prog 149 Ia.g149 := GIs.t_of (tabs := tabsA) (sl := []) (ks := [2]) (m := 1) Tryz.func149 (by kernel_rfl) (by kernel_rfl)
theorem Ia.c154 : GIs Tryz.prog 154 Ia.g154 := GIs.t_of (tabs := tabsA) (sl := []) (ks := [2]) (m := 1) Tryz.func154 (by kernel_rfl) (by kernel_rfl)
theorem Ia.c158 : GIs Tryz.prog 158 Ia.g158 := GIs.t_of (tabs := tabsA) (sl := []) (ks := [2]) (m := 1) Tryz.func158 (by kernel_rfl) (by kernel_rfl)
end Go.Den
end
