/- Part ChkB: an interpreter of the program's operations over abstract memory, its laws, and what it tells of the statement. No condition. -/
import Derived.Test.YtnjpahkdlffpcaaGreatDoorProg
import Derived.KernelRfl
import Derived.Test.YtnjpahkdlffpcaaGreatDoorFnB
import Derived.Test.YtnjpahkdlffpcaaGreatDoorChkA
import Derived.Test.YtnjpahkdlffpcaaGreatDoorDenD
set_option linter.unusedVariables false
set_option linter.unusedSimpArgs false
set_option linter.unusedSectionVars false
section
open Go Go.Den Go.Proofs
set_option maxRecDepth 100000
namespace Go.Den
theorem Ia.c3 : GIs Tryz.prog 3 Ia.g3 := GIs.t_of (tabs := tabsA) (sl := []) (ks := [0]) (m := 0) Tryz.func3 (by kernel_rfl) (by kernel_rfl)
theorem Ia.c7 : GIs Tryz.prog 7 Ia.g7 := GIs.t_of (tabs := tabsA) (sl := []) (ks := [2]) (m := 1) Tryz.func7 (by kernel_rfl) (by kernel_rfl)
theorem Ia.c11 : GIs Tryz.prog 11 Ia.g11 := GIs.t_of (tabs := tabsA) (sl := []) (ks := [2]) (m := 1) Tryz.func11 (by kernel_rfl) (by kernel_rfl)
theorem Ia.c15 : GIs Tryz.prog 15 Ia.g15 := GIs.q_of (tabs := tabsA) Tryz.func15 (by kernel_rfl) (by kernel_rfl)
theorem Ia.c19 : GIs Tryz.prog 19 Ia.g19 := GIs.t_of (tabs := tabsA) (sl := []) (ks := [2]) (m := 1) Tryz.func19 (by kernel_rfl) (by kernel_rfl)
theorem Ia.c23 : GIs Tryz.prog 23 Ia.g23 := GIs.t_of (tabs := tabsA) (sl := []) (ks := [2]) (m := 1) Tryz.func23 (by kernel_rfl) (by kernel_rfl)
theorem Ia.c27 : GIs Tryz.prog 27 Ia.g27 := GIs.t_of (tabs := tabsA) (sl := []) (ks := [6]) (m := 3) Tryz.func27 (by kernel_rfl) (by kernel_rfl)
theorem Ia.c31 : GIs Tryz.prog 31 Ia.g31 := GIs.h_of (tabs := tabsA) (sl := []) (m := 4) Tryz.func31 (by kernel_rfl) (by kernel_rfl)
theorem Ia.c35 : GIs Tryz.prog 35 Ia.g35 := GIs.h_of (tabs := tabsA) (sl := []) (m := 2) Tryz.func35 (by kernel_rfl) (by kernel_rfl)
theorem Ia.c39 : GIs Tryz.prog 39 Ia.g39 := GIs.h_of (tabs := tabsA) (sl := []) (m := 1) Tryz.func39 (by kernel_rfl) (by kernel_rfl)
theorem Ia.c43 : GIs Tryz.prog 43 Ia.g43 := GIs.h_of (tabs := tabsA) (sl := []) (m := 1) Tryz.func43 (by kernel_rfl) (by kernel_rfl)
theorem Ia.c47 : GIs Tryz.prog 47 Ia.g47 := GIs.h_of (tabs := tabsA) (sl := []) (m := 1) Tryz.func47 (by kernel_rfl) (by kernel_rfl)
theorem Ia.c51 : GIs Tryz.prog 51 Ia.g51 := GIs.t_of (tabs := tabsA) (sl := []) (ks := [2, 3, 4]) (m := 1) Tryz.func51 (by kernel_rfl) (by kernel_rfl)
theorem Ia.c55 : GIs Tryz.prog 55 Ia.g55 := GIs.t_of (tabs := tabsA) (sl := []) (ks := [6]) (m := 3) Tryz.func55 (by kernel_rfl) (by kernel_rfl)
theorem Ia.c59 : GIs Tryz.prog 59 Ia.g59 := GIs.t_of (tabs := tabsA) (sl := []) (ks := [2]) (m := 1) Tryz.func59 (by kernel_rfl) (by kernel_rfl)
theorem Ia.c63 : GIs Tryz.prog 63 Ia.g63 := GIs.h_of (tabs := tabsA) (sl := []) (m := 2) Tryz.func63 (by kernel_rfl) (by kernel_rfl)
theorem Ia.c67 : GIs Tryz.prog 67 Ia.g67 := GIs.t_of (tabs := tabsA) (sl := []) (ks := [4]) (m := 2) Tryz.func67 (by kernel_rfl) (by kernel_rfl)
theorem Ia.c71 : GIs Tryz.prog 71 Ia.g71 := GIs.h_of (tabs := tabsA) (sl := []) (m := 0) Tryz.func71 (by kernel_rfl) (by kernel_rfl)
theorem Ia.c75 : GIs Tryz.prog 75 Ia.g75 := GIs.h_of (tabs := tabsA) (sl := []) (m := 0) Tryz.func75 (by kernel_rfl) (by kernel_rfl)
theorem Ia.c79 : GIs Tryz.prog 79 Ia.g79 := GIs.h_of (tabs := tabsA) (sl := []) (m := 0) Tryz.func79 (by kernel_rfl) (by kernel_rfl)
theorem Ia.c83 : GIs Tryz.prog 83 Ia.g83 := GIs.t_of (tabs := tabsA) (sl := []) (ks := [4]) (m := 2) Tryz.func83 (by kernel_rfl) (by kernel_rfl)
theorem Ia.c88 : GIs Tryz.prog 88 Ia.g88 := GIs.t_of (tabs := tabsA) (sl := []) (ks := [4]) (m := 2) Tryz.func88 (by kernel_rfl) (by kernel_rfl)
theorem Ia.c92 : GIs Tryz.prog 92 Ia.g92 := GIs.t_of (tabs := tabsA) (sl := []) (ks := []) (m := 2) Tryz.func92 (by kernel_rfl) (by kernel_rfl)
theorem Ia.c96 : GIs Tryz.prog 96 Ia.g96 := GIs.t_of (tabs := tabsA) (sl := []) (ks := []) (m := 2) Tryz.func96 (by kernel_rfl) (by kernel_rfl)
theorem Ia.c100 : GIs Tryz.prog 100 Ia.g100 := GIs.t_of (tabs := tabsA) (sl := [4]) (ks := []) (m := 2) Tryz.func100 (by kernel_rfl) (by kernel_rfl)
theorem Ia.c104 : GIs Tryz.prog 104 Ia.g104 := GIs.t_of (tabs := tabsA) (sl := []) (ks := [2]) (m := 1) Tryz.func104 (by kernel_rfl) (by kernel_rfl)
theorem Ia.c108 : GIs Tryz.prog 108 Ia.g108 := GIs.t_of (tabs := tabsA) (sl := []) (ks := []) (m := 2) Tryz.func108 (by kernel_rfl) (by kernel_rfl)
theorem Ia.c112 : GIs Tryz.prog 112 Ia.g112 := GIs.t_of (tabs := tabsA) (sl := []) (ks := []) (m := 2) Tryz.func112 (by kernel_rfl) (by kernel_rfl)
theorem Ia.c116 : GIs Tryz.prog 116 Ia.g116 := GIs.t_of (tabs := tabsA) (sl := [4]) (ks := []) (m := 2) Tryz.func116 (by kernel_rfl) (by kernel_rfl)
theorem Ia.c121 : GIs Tryz.prog 121 Ia.g121 := GIs.t_of (tabs := tabsA) (sl := []) (ks := [2, 3]) (m := 1) Tryz.func121 (by kernel_rfl) (by kernel_rfl)
theorem Ia.c126 : GIs Tryz.prog 126 Ia.g126 := GIs.t_of (tabs := tabsA) (sl := []) (ks := [2]) (m := 1) Tryz.func126 (by kernel_rfl) (by kernel_rfl)
theorem Ia.c130 : GIs Tryz.prog 130 Ia.g130 := GIs.t_of (tabs := tabsA) (sl := []) (ks := [2]) (m := 1) Tryz.func130 (by kernel_rfl) (by kernel_rfl)
theorem Ia.c135 : GIs Tryz.prog 135 Ia.g135 := GIs.t_of (tabs := tabsA) (sl := []) (ks := [4]) (m := 2) Tryz.func135 (by kernel_rfl) (by kernel_rfl)
theorem Ia.c140 : GIs Tryz.prog 140 Ia.g140 := GIs.t_of (tabs := tabsA) (sl := []) (ks := [4]) (m := 2) Tryz.func140 (by kernel_rfl) (by kernel_rfl)
theorem Ia.c144 : GIs Tryz.prog 144 Ia.g144 := GIs.t_of (tabs := tabsA) (sl := []) (ks := [2]) (m := 1) Tryz.func144 (by kernel_rfl) (by kernel_rfl)
theorem Ia.c148 : GIs Tryz.prog 148 Ia.g148 := GIs.t_of (tabs := tabsA) (sl := []) (ks := [2]) (m := 1) Tryz.func148 (by kernel_rfl) (by kernel_rfl)
theorem Ia.c153 : GIs Tryz.prog 153 Ia.g153 := GIs.t_of (tabs := tabsA) (sl := []) (ks := [2, 3]) (m := 1) Tryz.func153 (by kernel_rfl) (by kernel_rfl)
theorem Ia.c157 : GIs Tryz.prog 157 Ia.g157 := GIs.t_of (tabs := tabsA) (sl := []) (ks := [2]) (m := 1) Tryz.func157 (by kernel_rfl) (by kernel_rfl)
theorem Ia.c191 : GIs Tryz.prog 191 Ia.g191 := GIs.t_of (tabs := tabsA) (sl := []) (ks := []) (m := 0) Tryz.func191 (by kernel_rfl) (by kernel_rfl)
end Go.Den
end
