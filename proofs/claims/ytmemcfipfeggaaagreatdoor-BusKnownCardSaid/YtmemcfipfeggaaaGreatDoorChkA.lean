/- Part ChkA: an interpreter of the program's operations over abstract memory, its laws, and what it tells of the statement. No condition. -/
import Derived.Test.YtmemcfipfeggaaaGreatDoorProg
import Derived.KernelRfl
import Derived.Test.YtmemcfipfeggaaaGreatDoorDenD
import Derived.Test.YtmemcfipfeggaaaGreatDoorFnB
set_option linter.unusedVariables false
set_option linter.unusedSimpArgs false
set_option linter.unusedSectionVars false
section
namespace Go.Den
def tabsB : String → List Nat := fun s => match s with
  | "range" => [298]
  | "almonry/channel.waiting" => [336, 341]
  | "almonry/channel.send" => [336, 341]
  | "almonry/channel.receive" => [336, 341]
  | "Receive" => [45, 96, 151, 306, 332]
  | "Send" => [45, 96, 151, 306, 332]
  | "Waiting" => [45, 72, 96, 151, 332]
  | _ => []
end Go.Den
end

section
open Go Go.Den Go.Proofs
set_option maxRecDepth 100000
namespace Go.Den
theorem Ib.c5 : GIs Tryz.prog 5 Ib.g5 := GIs.t_of (tabs := tabsB) (sl := []) (ks := [0]) (m := 0) Tryz.func5 (by kernel_rfl) (by kernel_rfl)
theorem Ib.c17 : GIs Tryz.prog 17 Ib.g17 := GIs.t_of (tabs := tabsB) (sl := []) (ks := [2]) (m := 1) Tryz.func17 (by kernel_rfl) (by kernel_rfl)
theorem Ib.c25 : GIs Tryz.prog 25 Ib.g25 := GIs.t_of (tabs := tabsB) (sl := []) (ks := []) (m := 2) Tryz.func25 (by kernel_rfl) (by kernel_rfl)
theorem Ib.c29 : GIs Tryz.prog 29 Ib.g29 := GIs.t_of (tabs := tabsB) (sl := []) (ks := [8]) (m := 4) Tryz.func29 (by kernel_rfl) (by kernel_rfl)
theorem Ib.c33 : GIs Tryz.prog 33 Ib.g33 := GIs.t_of (tabs := tabsB) (sl := []) (ks := [6]) (m := 3) Tryz.func33 (by kernel_rfl) (by kernel_rfl)
theorem Ib.c37 : GIs Tryz.prog 37 Ib.g37 := GIs.t_of (tabs := tabsB) (sl := []) (ks := []) (m := 1) Tryz.func37 (by kernel_rfl) (by kernel_rfl)
theorem Ib.c41 : GIs Tryz.prog 41 Ib.g41 := GIs.t_of (tabs := tabsB) (sl := []) (ks := [6]) (m := 3) Tryz.func41 (by kernel_rfl) (by kernel_rfl)
theorem Ib.c47 : GIs Tryz.prog 47 Ib.g47 := GIs.t_of (tabs := tabsB) (sl := []) (ks := [2]) (m := 1) Tryz.func47 (by kernel_rfl) (by kernel_rfl)
theorem Ib.c77 : GIs Tryz.prog 77 Ib.g77 := GIs.t_of (tabs := tabsB) (sl := []) (ks := [6]) (m := 3) Tryz.func77 (by kernel_rfl) (by kernel_rfl)
theorem Ib.c100 : GIs Tryz.prog 100 Ib.g100 := GIs.t_of (tabs := tabsB) (sl := []) (ks := [0]) (m := 0) Tryz.func100 (by kernel_rfl) (by kernel_rfl)
theorem Ib.c105 : GIs Tryz.prog 105 Ib.g105 := GIs.q_of (tabs := tabsB) Tryz.func105 (by kernel_rfl) (by kernel_rfl)
theorem Ib.c109 : GIs Tryz.prog 109 Ib.g109 := GIs.t_of (tabs := tabsB) (sl := []) (ks := [6]) (m := 3) Tryz.func109 (by kernel_rfl) (by kernel_rfl)
theorem Ib.c113 : GIs Tryz.prog 113 Ib.g113 := GIs.t_of (tabs := tabsB) (sl := []) (ks := [6]) (m := 3) Tryz.func113 (by kernel_rfl) (by kernel_rfl)
theorem Ib.c117 : GIs Tryz.prog 117 Ib.g117 := GIs.t_of (tabs := tabsB) (sl := []) (ks := []) (m := 1) Tryz.func117 (by kernel_rfl) (by kernel_rfl)
theorem Ib.c121 : GIs Tryz.prog 121 Ib.g121 := GIs.t_of (tabs := tabsB) (sl := []) (ks := []) (m := 2) Tryz.func121 (by kernel_rfl) (by kernel_rfl)
theorem Ib.c125 : GIs Tryz.prog 125 Ib.g125 := GIs.t_of (tabs := tabsB) (sl := []) (ks := [6, 7]) (m := 3) Tryz.func125 (by kernel_rfl) (by kernel_rfl)
theorem Ib.c129 : GIs Tryz.prog 129 Ib.g129 := GIs.t_of (tabs := tabsB) (sl := []) (ks := [8]) (m := 4) Tryz.func129 (by kernel_rfl) (by kernel_rfl)
theorem Ib.c136 : GIs Tryz.prog 136 Ib.g136 := GIs.t_of (tabs := tabsB) (sl := []) (ks := [6, 7]) (m := 3) Tryz.func136 (by kernel_rfl) (by kernel_rfl)
theorem Ib.c172 : GIs Tryz.prog 172 Ib.g172 := GIs.t_of (tabs := tabsB) (sl := []) (ks := [2]) (m := 1) Tryz.func172 (by kernel_rfl) (by kernel_rfl)
theorem Ib.c182 : GIs Tryz.prog 182 Ib.g182 := GIs.t_of (tabs := tabsB) (sl := []) (ks := [2]) (m := 1) Tryz.func182 (by kernel_rfl) (by kernel_rfl)
theorem Ib.c191 : GIs Tryz.prog 191 Ib.g191 := GIs.t_of (tabs := tabsB) (sl := []) (ks := [2]) (m := 1) Tryz.func191 (by kernel_rfl) (by kernel_rfl)
theorem Ib.c198 : GIs Tryz.prog 198 Ib.g198 := GIs.t_of (tabs := tabsB) (sl := []) (ks := [4]) (m := 2) Tryz.func198 (by kernel_rfl) (by kernel_rfl)
theorem Ib.c202 : GIs Tryz.prog 202 Ib.g202 := GIs.t_of (tabs := tabsB) (sl := []) (ks := [6]) (m := 3) Tryz.func202 (by kernel_rfl) (by kernel_rfl)
theorem Ib.c206 : GIs Tryz.prog 206 Ib.g206 := GIs.q_of (tabs := tabsB) Tryz.func206 (by kernel_rfl) (by kernel_rfl)
theorem Ib.c210 : GIs Tryz.prog 210 Ib.g210 := GIs.t_of (tabs := tabsB) (sl := []) (ks := [6]) (m := 3) Tryz.func210 (by kernel_rfl) (by kernel_rfl)
theorem Ib.c219 : GIs Tryz.prog 219 Ib.g219 := GIs.t_of (tabs := tabsB) (sl := []) (ks := []) (m := 3) Tryz.func219 (by kernel_rfl) (by kernel_rfl)
theorem Ib.c243 : GIs Tryz.prog 243 Ib.g243 := GIs.t_of (tabs := tabsB) (sl := []) (ks := [6, 7]) (m := 3) Tryz.func243 (by kernel_rfl) (by kernel_rfl)
theorem Ib.c257 : GIs Tryz.prog 257 Ib.g257 := GIs.t_of (tabs := tabsB) (sl := []) (ks := [2]) (m := 1) Tryz.func257 (by kernel_rfl) (by kernel_rfl)
theorem Ib.c335 : GIs Tryz.prog 335 Ib.g335 := GIs.t_of (tabs := tabsB) (sl := []) (ks := [6]) (m := 3) Tryz.func335 (by kernel_rfl) (by kernel_rfl)
theorem Ib.c339 : GIs Tryz.prog 339 Ib.g339 := GIs.t_of (tabs := tabsB) (sl := []) (ks := [6]) (m := 3) Tryz.func339 (by kernel_rfl) (by kernel_rfl)
theorem Ib.c357 : GIs Tryz.prog 357 Ib.g357 := GIs.t_of (tabs := tabsB) (sl := []) (ks := [6]) (m := 3) Tryz.func357 (by kernel_rfl) (by kernel_rfl)
end Go.Den
end
