/- Part ChkB: an interpreter of the program's operations over abstract memory, its laws, and what it tells of the statement. No condition. -/
import Derived.Test.YtmemcfipfeggaaaGreatDoorProg
import Derived.KernelRfl
import Derived.Test.YtmemcfipfeggaaaGreatDoorFnB
import Derived.Test.YtmemcfipfeggaaaGreatDoorChkA
import Derived.Test.YtmemcfipfeggaaaGreatDoorDenD
set_option linter.unusedVariables false
set_option linter.unusedSimpArgs false
set_option linter.unusedSectionVars false
section
open Go Go.Den Go.Proofs
set_option maxRecDepth 100000
namespace Go.Den
theorem Ib.c7 : GIs Tryz.prog 7 Ib.g7 := GIs.t_of (tabs := tabsB) (sl := []) (ks := [6, 7]) (m := 3) Tryz.func7 (by kernel_rfl) (by kernel_rfl)
theorem Ib.c19 : GIs Tryz.prog 19 Ib.g19 := GIs.t_of (tabs := tabsB) (sl := []) (ks := [0]) (m := 0) Tryz.func19 (by kernel_rfl) (by kernel_rfl)
theorem Ib.c26 : GIs Tryz.prog 26 Ib.g26 := GIs.t_of (tabs := tabsB) (sl := []) (ks := []) (m := 3) Tryz.func26 (by kernel_rfl) (by kernel_rfl)
theorem Ib.c30 : GIs Tryz.prog 30 Ib.g30 := GIs.t_of (tabs := tabsB) (sl := []) (ks := [6]) (m := 3) Tryz.func30 (by kernel_rfl) (by kernel_rfl)
theorem Ib.c34 : GIs Tryz.prog 34 Ib.g34 := GIs.t_of (tabs := tabsB) (sl := []) (ks := [6]) (m := 3) Tryz.func34 (by kernel_rfl) (by kernel_rfl)
theorem Ib.c38 : GIs Tryz.prog 38 Ib.g38 := GIs.t_of (tabs := tabsB) (sl := []) (ks := []) (m := 2) Tryz.func38 (by kernel_rfl) (by kernel_rfl)
theorem Ib.c44 : GIs Tryz.prog 44 Ib.g44 := GIs.t_of (tabs := tabsB) (sl := []) (ks := [2]) (m := 1) Tryz.func44 (by kernel_rfl) (by kernel_rfl)
theorem Ib.c48 : GIs Tryz.prog 48 Ib.g48 := GIs.t_of (tabs := tabsB) (sl := []) (ks := []) (m := 1) Tryz.func48 (by kernel_rfl) (by kernel_rfl)
theorem Ib.c85 : GIs Tryz.prog 85 Ib.g85 := GIs.t_of (tabs := tabsB) (sl := []) (ks := [2]) (m := 1) Tryz.func85 (by kernel_rfl) (by kernel_rfl)
theorem Ib.c101 : GIs Tryz.prog 101 Ib.g101 := GIs.t_of (tabs := tabsB) (sl := []) (ks := [4]) (m := 2) Tryz.func101 (by kernel_rfl) (by kernel_rfl)
theorem Ib.c106 : GIs Tryz.prog 106 Ib.g106 := GIs.t_of (tabs := tabsB) (sl := []) (ks := [2]) (m := 1) Tryz.func106 (by kernel_rfl) (by kernel_rfl)
theorem Ib.c110 : GIs Tryz.prog 110 Ib.g110 := GIs.t_of (tabs := tabsB) (sl := []) (ks := [2]) (m := 1) Tryz.func110 (by kernel_rfl) (by kernel_rfl)
theorem Ib.c114 : GIs Tryz.prog 114 Ib.g114 := GIs.t_of (tabs := tabsB) (sl := []) (ks := []) (m := 3) Tryz.func114 (by kernel_rfl) (by kernel_rfl)
theorem Ib.c118 : GIs Tryz.prog 118 Ib.g118 := GIs.t_of (tabs := tabsB) (sl := []) (ks := []) (m := 1) Tryz.func118 (by kernel_rfl) (by kernel_rfl)
theorem Ib.c122 : GIs Tryz.prog 122 Ib.g122 := GIs.t_of (tabs := tabsB) (sl := []) (ks := [0]) (m := 0) Tryz.func122 (by kernel_rfl) (by kernel_rfl)
theorem Ib.c126 : GIs Tryz.prog 126 Ib.g126 := GIs.t_of (tabs := tabsB) (sl := []) (ks := [8]) (m := 4) Tryz.func126 (by kernel_rfl) (by kernel_rfl)
theorem Ib.c131 : GIs Tryz.prog 131 Ib.g131 := GIs.t_of (tabs := tabsB) (sl := []) (ks := [8]) (m := 4) Tryz.func131 (by kernel_rfl) (by kernel_rfl)
theorem Ib.c138 : GIs Tryz.prog 138 Ib.g138 := GIs.t_of (tabs := tabsB) (sl := []) (ks := [6, 7]) (m := 3) Tryz.func138 (by kernel_rfl) (by kernel_rfl)
theorem Ib.c174 : GIs Tryz.prog 174 Ib.g174 := GIs.t_of (tabs := tabsB) (sl := []) (ks := [2]) (m := 1) Tryz.func174 (by kernel_rfl) (by kernel_rfl)
theorem Ib.c183 : GIs Tryz.prog 183 Ib.g183 := GIs.t_of (tabs := tabsB) (sl := []) (ks := [2]) (m := 1) Tryz.func183 (by kernel_rfl) (by kernel_rfl)
theorem Ib.c192 : GIs Tryz.prog 192 Ib.g192 := GIs.t_of (tabs := tabsB) (sl := []) (ks := []) (m := 1) Tryz.func192 (by kernel_rfl) (by kernel_rfl)
theorem Ib.c199 : GIs Tryz.prog 199 Ib.g199 := GIs.t_of (tabs := tabsB) (sl := []) (ks := []) (m := 1) Tryz.func199 (by kernel_rfl) (by kernel_rfl)
theorem Ib.c203 : GIs Tryz.prog 203 Ib.g203 := GIs.t_of (tabs := tabsB) (sl := []) (ks := [6]) (m := 3) Tryz.func203 (by kernel_rfl) (by kernel_rfl)
theorem Ib.c207 : GIs Tryz.prog 207 Ib.g207 := GIs.t_of (tabs := tabsB) (sl := []) (ks := [7]) (m := 4) Tryz.func207 (by kernel_rfl) (by kernel_rfl)
theorem Ib.c212 : GIs Tryz.prog 212 Ib.g212 := GIs.t_of (tabs := tabsB) (sl := []) (ks := []) (m := 3) Tryz.func212 (by kernel_rfl) (by kernel_rfl)
theorem Ib.c240 : GIs Tryz.prog 240 Ib.g240 := GIs.t_of (tabs := tabsB) (sl := []) (ks := [2]) (m := 1) Tryz.func240 (by kernel_rfl) (by kernel_rfl)
theorem Ib.c245 : GIs Tryz.prog 245 Ib.g245 := GIs.t_of (tabs := tabsB) (sl := []) (ks := [2]) (m := 1) Tryz.func245 (by kernel_rfl) (by kernel_rfl)
theorem Ib.c263 : GIs Tryz.prog 263 Ib.g263 := GIs.t_of (tabs := tabsB) (sl := []) (ks := [2]) (m := 1) Tryz.func263 (by kernel_rfl) (by kernel_rfl)
theorem Ib.c336 : GIs Tryz.prog 336 Ib.g336 := GIs.t_of (tabs := tabsB) (sl := []) (ks := [4]) (m := 2) Tryz.func336 (by kernel_rfl) (by kernel_rfl)
theorem Ib.c352 : GIs Tryz.prog 352 Ib.g352 := GIs.t_of (tabs := tabsB) (sl := []) (ks := [4]) (m := 2) Tryz.func352 (by kernel_rfl) (by kernel_rfl)
theorem Ib.c358 : GIs Tryz.prog 358 Ib.g358 := GIs.t_of (tabs := tabsB) (sl := []) (ks := [4]) (m := 2) Tryz.func358 (by kernel_rfl) (by kernel_rfl)
end Go.Den
end
