/- Part ChkC: an interpreter of the program's operations over abstract memory, its laws, and what it tells of the statement. No condition. -/
import Derived.Test.YtmemcfipfeggaaaGreatDoorProg
import Derived.KernelRfl
import Derived.Test.YtmemcfipfeggaaaGreatDoorFnB
import Derived.Test.YtmemcfipfeggaaaGreatDoorChkA
import Derived.Test.YtmemcfipfeggaaaGreatDoorDenD
set_option linter.unusedVariables false
set_option linter.unusedSimpArgs false
set_option linter.unusedSectionVars false
section
open Go Go.Den Go.Proofs
set_option maxRecDepth 100000
namespace Go.Den
theorem Ib.c10 : GIs Tryz.prog 10 Ib.g10 := GIs.t_of (tabs := tabsB) (sl := []) (ks := [8]) (m := 4) Tryz.func10 (by kernel_rfl) (by kernel_rfl)
theorem Ib.c21 : GIs Tryz.prog 21 Ib.g21 := GIs.t_of (tabs := tabsB) (sl := []) (ks := [0]) (m := 0) Tryz.func21 (by kernel_rfl) (by kernel_rfl)
theorem Ib.c27 : GIs Tryz.prog 27 Ib.g27 := GIs.t_of (tabs := tabsB) (sl := []) (ks := [6]) (m := 3) Tryz.func27 (by kernel_rfl) (by kernel_rfl)
theorem Ib.c31 : GIs Tryz.prog 31 Ib.g31 := GIs.t_of (tabs := tabsB) (sl := []) (ks := [2]) (m := 1) Tryz.func31 (by kernel_rfl) (by kernel_rfl)
theorem Ib.c35 : GIs Tryz.prog 35 Ib.g35 := GIs.t_of (tabs := tabsB) (sl := []) (ks := [4]) (m := 2) Tryz.func35 (by kernel_rfl) (by kernel_rfl)
theorem Ib.c39 : GIs Tryz.prog 39 Ib.g39 := GIs.t_of (tabs := tabsB) (sl := []) (ks := [6, 7]) (m := 3) Tryz.func39 (by kernel_rfl) (by kernel_rfl)
theorem Ib.c45 : GIs Tryz.prog 45 Ib.g45 := GIs.t_of (tabs := tabsB) (sl := []) (ks := [0]) (m := 0) Tryz.func45 (by kernel_rfl) (by kernel_rfl)
theorem Ib.c56 : GIs Tryz.prog 56 Ib.g56 := GIs.h_of (tabs := tabsB) (sl := []) (m := 3) Tryz.func56 (by kernel_rfl) (by kernel_rfl)
theorem Ib.c87 : GIs Tryz.prog 87 Ib.g87 := GIs.t_of (tabs := tabsB) (sl := []) (ks := [2]) (m := 1) Tryz.func87 (by kernel_rfl) (by kernel_rfl)
theorem Ib.c103 : GIs Tryz.prog 103 Ib.g103 := GIs.t_of (tabs := tabsB) (sl := []) (ks := []) (m := 1) Tryz.func103 (by kernel_rfl) (by kernel_rfl)
theorem Ib.c107 : GIs Tryz.prog 107 Ib.g107 := GIs.t_of (tabs := tabsB) (sl := []) (ks := [2]) (m := 1) Tryz.func107 (by kernel_rfl) (by kernel_rfl)
theorem Ib.c111 : GIs Tryz.prog 111 Ib.g111 := GIs.t_of (tabs := tabsB) (sl := []) (ks := [4]) (m := 2) Tryz.func111 (by kernel_rfl) (by kernel_rfl)
theorem Ib.c115 : GIs Tryz.prog 115 Ib.g115 := GIs.t_of (tabs := tabsB) (sl := []) (ks := [6]) (m := 3) Tryz.func115 (by kernel_rfl) (by kernel_rfl)
theorem Ib.c119 : GIs Tryz.prog 119 Ib.g119 := GIs.t_of (tabs := tabsB) (sl := []) (ks := []) (m := 1) Tryz.func119 (by kernel_rfl) (by kernel_rfl)
theorem Ib.c123 : GIs Tryz.prog 123 Ib.g123 := GIs.t_of (tabs := tabsB) (sl := []) (ks := [0]) (m := 0) Tryz.func123 (by kernel_rfl) (by kernel_rfl)
theorem Ib.c127 : GIs Tryz.prog 127 Ib.g127 := GIs.t_of (tabs := tabsB) (sl := []) (ks := [6, 7]) (m := 3) Tryz.func127 (by kernel_rfl) (by kernel_rfl)
theorem Ib.c133 : GIs Tryz.prog 133 Ib.g133 := GIs.t_of (tabs := tabsB) (sl := []) (ks := [8]) (m := 4) Tryz.func133 (by kernel_rfl) (by kernel_rfl)
theorem Ib.c139 : GIs Tryz.prog 139 Ib.g139 := GIs.t_of (tabs := tabsB) (sl := []) (ks := [8]) (m := 4) Tryz.func139 (by kernel_rfl) (by kernel_rfl)
theorem Ib.c177 : GIs Tryz.prog 177 Ib.g177 := GIs.t_of (tabs := tabsB) (sl := []) (ks := [2]) (m := 1) Tryz.func177 (by kernel_rfl) (by kernel_rfl)
theorem Ib.c184 : GIs Tryz.prog 184 Ib.g184 := GIs.t_of (tabs := tabsB) (sl := []) (ks := [6]) (m := 3) Tryz.func184 (by kernel_rfl) (by kernel_rfl)
theorem Ib.c193 : GIs Tryz.prog 193 Ib.g193 := GIs.t_of (tabs := tabsB) (sl := []) (ks := [2]) (m := 1) Tryz.func193 (by kernel_rfl) (by kernel_rfl)
theorem Ib.c200 : GIs Tryz.prog 200 Ib.g200 := GIs.t_of (tabs := tabsB) (sl := []) (ks := [4]) (m := 2) Tryz.func200 (by kernel_rfl) (by kernel_rfl)
theorem Ib.c204 : GIs Tryz.prog 204 Ib.g204 := GIs.t_of (tabs := tabsB) (sl := []) (ks := []) (m := 1) Tryz.func204 (by kernel_rfl) (by kernel_rfl)
theorem Ib.c208 : GIs Tryz.prog 208 Ib.g208 := GIs.t_of (tabs := tabsB) (sl := []) (ks := [6]) (m := 3) Tryz.func208 (by kernel_rfl) (by kernel_rfl)
theorem Ib.c215 : GIs Tryz.prog 215 Ib.g215 := GIs.t_of (tabs := tabsB) (sl := []) (ks := [6, 7]) (m := 3) Tryz.func215 (by kernel_rfl) (by kernel_rfl)
theorem Ib.c241 : GIs Tryz.prog 241 Ib.g241 := GIs.t_of (tabs := tabsB) (sl := []) (ks := [2]) (m := 1) Tryz.func241 (by kernel_rfl) (by kernel_rfl)
theorem Ib.c249 : GIs Tryz.prog 249 Ib.g249 := GIs.t_of (tabs := tabsB) (sl := []) (ks := []) (m := 3) Tryz.func249 (by kernel_rfl) (by kernel_rfl)
theorem Ib.c298 : GIs Tryz.prog 298 Ib.g298 := GIs.t_of (tabs := tabsB) (sl := []) (ks := []) (m := 2) Tryz.func298 (by kernel_rfl) (by kernel_rfl)
theorem Ib.c337 : GIs Tryz.prog 337 Ib.g337 := GIs.t_of (tabs := tabsB) (sl := []) (ks := [6, 7, 8]) (m := 3) Tryz.func337 (by kernel_rfl) (by kernel_rfl)
theorem Ib.c353 : GIs Tryz.prog 353 Ib.g353 := GIs.t_of (tabs := tabsB) (sl := []) (ks := [2]) (m := 1) Tryz.func353 (by kernel_rfl) (by kernel_rfl)
theorem Ib.c196 : GIs Tryz.prog 196 Ib.g196 := GIs.t_of (tabs := tabsB) (sl := []) (ks := []) (m := 2) Tryz.func196 (by kernel_rfl) (by kernel_rfl)
end Go.Den
end
