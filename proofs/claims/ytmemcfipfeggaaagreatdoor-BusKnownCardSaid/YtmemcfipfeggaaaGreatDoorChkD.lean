/- Part ChkD: an interpreter of the program's operations over abstract memory, its laws, and what it tells of the statement. No condition. -/
import Derived.Test.YtmemcfipfeggaaaGreatDoorProg
import Derived.KernelRfl
import Derived.Test.YtmemcfipfeggaaaGreatDoorFnB
import Derived.Test.YtmemcfipfeggaaaGreatDoorChkA
import Derived.Test.YtmemcfipfeggaaaGreatDoorDenD
set_option linter.unusedVariables false
set_option linter.unusedSimpArgs false
set_option linter.unusedSectionVars false
section
open Go Go.Den Go.Proofs
set_option maxRecDepth 100000
namespace Go.Den
theorem Ib.c15 : GIs Tryz.prog 15 Ib.g15 := GIs.t_of (tabs := tabsB) (sl := []) (ks := [6]) (m := 3) Tryz.func15 (by kernel_rfl) (by kernel_rfl)
theorem Ib.c23 : GIs Tryz.prog 23 Ib.g23 := GIs.t_of (tabs := tabsB) (sl := []) (ks := [6, 7]) (m := 3) Tryz.func23 (by kernel_rfl) (by kernel_rfl)
theorem Ib.c28 : GIs Tryz.prog 28 Ib.g28 := GIs.t_of (tabs := tabsB) (sl := []) (ks := [2]) (m := 1) Tryz.func28 (by kernel_rfl) (by kernel_rfl)
theorem Ib.c32 : GIs Tryz.prog 32 Ib.g32 := GIs.t_of (tabs := tabsB) (sl := []) (ks := [2]) (m := 1) Tryz.func32 (by kernel_rfl) (by kernel_rfl)
theorem Ib.c36 : GIs Tryz.prog 36 Ib.g36 := GIs.t_of (tabs := tabsB) (sl := []) (ks := []) (m := 1) Tryz.func36 (by kernel_rfl) (by kernel_rfl)
theorem Ib.c40 : GIs Tryz.prog 40 Ib.g40 := GIs.t_of (tabs := tabsB) (sl := []) (ks := [2]) (m := 1) Tryz.func40 (by kernel_rfl) (by kernel_rfl)
theorem Ib.c46 : GIs Tryz.prog 46 Ib.g46 := GIs.t_of (tabs := tabsB) (sl := []) (ks := [2]) (m := 1) Tryz.func46 (by kernel_rfl) (by kernel_rfl)
theorem Ib.c76 : GIs Tryz.prog 76 Ib.g76 := GIs.t_of (tabs := tabsB) (sl := []) (ks := [2]) (m := 1) Tryz.func76 (by kernel_rfl) (by kernel_rfl)
theorem Ib.c99 : GIs Tryz.prog 99 Ib.g99 := GIs.t_of (tabs := tabsB) (sl := []) (ks := [4, 5]) (m := 2) Tryz.func99 (by kernel_rfl) (by kernel_rfl)
theorem Ib.c104 : GIs Tryz.prog 104 Ib.g104 := GIs.t_of (tabs := tabsB) (sl := []) (ks := [4]) (m := 2) Tryz.func104 (by kernel_rfl) (by kernel_rfl)
theorem Ib.c108 : GIs Tryz.prog 108 Ib.g108 := GIs.t_of (tabs := tabsB) (sl := []) (ks := [2]) (m := 1) Tryz.func108 (by kernel_rfl) (by kernel_rfl)
theorem Ib.c112 : GIs Tryz.prog 112 Ib.g112 := GIs.t_of (tabs := tabsB) (sl := []) (ks := [2]) (m := 1) Tryz.func112 (by kernel_rfl) (by kernel_rfl)
theorem Ib.c116 : GIs Tryz.prog 116 Ib.g116 := GIs.t_of (tabs := tabsB) (sl := []) (ks := [4]) (m := 2) Tryz.func116 (by kernel_rfl) (by kernel_rfl)
theorem Ib.c120 : GIs Tryz.prog 120 Ib.g120 := GIs.t_of (tabs := tabsB) (sl := []) (ks := []) (m := 1) Tryz.func120 (by kernel_rfl) (by kernel_rfl)
theorem Ib.c124 : GIs Tryz.prog 124 Ib.g124 := GIs.t_of (tabs := tabsB) (sl := []) (ks := [0]) (m := 0) Tryz.func124 (by kernel_rfl) (by kernel_rfl)
theorem Ib.c128 : GIs Tryz.prog 128 Ib.g128 := GIs.t_of (tabs := tabsB) (sl := []) (ks := [2]) (m := 1) Tryz.func128 (by kernel_rfl) (by kernel_rfl)
theorem Ib.c134 : GIs Tryz.prog 134 Ib.g134 := GIs.t_of (tabs := tabsB) (sl := []) (ks := [6, 7]) (m := 3) Tryz.func134 (by kernel_rfl) (by kernel_rfl)
theorem Ib.c144 : GIs Tryz.prog 144 Ib.g144 := GIs.t_of (tabs := tabsB) (sl := []) (ks := [6]) (m := 3) Tryz.func144 (by kernel_rfl) (by kernel_rfl)
theorem Ib.c181 : GIs Tryz.prog 181 Ib.g181 := GIs.t_of (tabs := tabsB) (sl := []) (ks := [2]) (m := 1) Tryz.func181 (by kernel_rfl) (by kernel_rfl)
theorem Ib.c190 : GIs Tryz.prog 190 Ib.g190 := GIs.t_of (tabs := tabsB) (sl := []) (ks := [4]) (m := 2) Tryz.func190 (by kernel_rfl) (by kernel_rfl)
theorem Ib.c197 : GIs Tryz.prog 197 Ib.g197 := GIs.t_of (tabs := tabsB) (sl := []) (ks := [2]) (m := 1) Tryz.func197 (by kernel_rfl) (by kernel_rfl)
theorem Ib.c201 : GIs Tryz.prog 201 Ib.g201 := GIs.t_of (tabs := tabsB) (sl := []) (ks := []) (m := 3) Tryz.func201 (by kernel_rfl) (by kernel_rfl)
theorem Ib.c205 : GIs Tryz.prog 205 Ib.g205 := GIs.t_of (tabs := tabsB) (sl := []) (ks := [8]) (m := 4) Tryz.func205 (by kernel_rfl) (by kernel_rfl)
theorem Ib.c209 : GIs Tryz.prog 209 Ib.g209 := GIs.h_of (tabs := tabsB) (sl := []) (m := 2) Tryz.func209 (by kernel_rfl) (by kernel_rfl)
theorem Ib.c216 : GIs Tryz.prog 216 Ib.g216 := GIs.h_of (tabs := tabsB) (sl := []) (m := 2) Tryz.func216 (by kernel_rfl) (by kernel_rfl)
theorem Ib.c242 : GIs Tryz.prog 242 Ib.g242 := GIs.t_of (tabs := tabsB) (sl := []) (ks := [4, 5]) (m := 2) Tryz.func242 (by kernel_rfl) (by kernel_rfl)
theorem Ib.c252 : GIs Tryz.prog 252 Ib.g252 := GIs.t_of (tabs := tabsB) (sl := []) (ks := []) (m := 3) Tryz.func252 (by kernel_rfl) (by kernel_rfl)
theorem Ib.c334 : GIs Tryz.prog 334 Ib.g334 := GIs.t_of (tabs := tabsB) (sl := []) (ks := [4, 5, 6]) (m := 2) Tryz.func334 (by kernel_rfl) (by kernel_rfl)
theorem Ib.c338 : GIs Tryz.prog 338 Ib.g338 := GIs.t_of (tabs := tabsB) (sl := []) (ks := [8]) (m := 4) Tryz.func338 (by kernel_rfl) (by kernel_rfl)
theorem Ib.c354 : GIs Tryz.prog 354 Ib.g354 := GIs.t_of (tabs := tabsB) (sl := []) (ks := [2]) (m := 1) Tryz.func354 (by kernel_rfl) (by kernel_rfl)
end Go.Den
end
