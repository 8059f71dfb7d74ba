/- Part StartA: an interpreter of the program's operations over abstract memory, its laws, and what it tells of the statement. No condition. -/
import Derived.Test.YtnjpahkdlffpcaaGreatDoorRows
import Derived.ProofKit
import Derived.MakeChecks
import Derived.Test.YtnjpahkdlffpcaaGreatDoorRunA
import Derived.Test.YtnjpahkdlffpcaaGreatDoorLibA
import Derived.Test.YtnjpahkdlffpcaaGreatDoorChkX
set_option linter.unusedVariables false
set_option linter.unusedSimpArgs false
set_option linter.unusedSectionVars false
section
/- What was laid, as the interpreter's first state; the call answers true. No condition. -/
open Go Go.Den
namespace Go.Proofs.YtnjpahkdlffpcaaGreatDoor
open Go.ChangeShapes Go.WideShapes Go.ChangeAt Go.WideMaps Go.WideElems Go.RowKit
set_option maxRecDepth 100000

theorem gPow : Tryz.prog.globalNamed "internal/strconv.uint64pow10" = some 1 := by kernel_rfl
theorem gRange : Tryz.prog.globalNamed "strconv.ErrRange" = some 5 := by kernel_rfl
theorem gSyntax : Tryz.prog.globalNamed "strconv.ErrSyntax" = some 4 := by kernel_rfl
theorem tPow : (Tryz.prog.globals[1]?).map (·.type) = some 147 := by kernel_rfl
theorem tRange : (Tryz.prog.globals[5]?).map (·.type) = some 52 := by kernel_rfl
theorem tSyntax : (Tryz.prog.globals[4]?).map (·.type) = some 52 := by kernel_rfl
theorem c164 : Tryz.prog.cellsOf 164 = 1 := by kernel_rfl
theorem c9 : Tryz.prog.cellsOf 9 = 1 := by kernel_rfl
theorem c96 : Tryz.prog.cellsOf 96 = 1 := by kernel_rfl
theorem c147 : Tryz.prog.cellsOf 147 = 20 := by kernel_rfl
theorem funcs_few : Tryz.prog.funcs.size ≤ yBase := Nat.le_of_ble_eq_true (by kernel_rfl)
theorem size8 : Tryz.prog.globals.size = 8 := by kernel_rfl
theorem star : "*" ++ "errors.errorString" = "*errors.errorString" := by decide
theorem row162 (u : TypeId) (h : Tryz.prog.typeName? 3 u = some "*errors.errorString") : u = 162 :=
  typeName_ptr_named (nm := "errors.errorString") (by rw [star]; kernel_rfl) (by kernel_rfl) (by decide) u (by rw [star]; exact h)

abbrev lst : List (String × DataW Unit) := Rows.asmKnownRow.laid

theorem st_at (t1 t4 t5 t8 t9 i : Nat) : (st t1 t4 t5 t8 t9).at i = if i = 9 then some (.row [.str rangeS] t9 0 0 true) else if i = 5 then some (.row [.iface 162 (.ptr (some (9, 0)))] t5 0 0 true) else if i = 8 then some (.row [.str syntaxS] t8 0 0 true) else
    if i = 4 then some (.row [.iface 162 (.ptr (some (8, 0)))] t4 0 0 true) else if i = 1 then some (.row (pow10.map (V.int .u64)) t1 0 0 true) else none := by
  simp only [st, St.at, Tr.get_set]
  rfl

theorem heap_of {W : World} {n : String} {g : Nat} {cs : Array Value} (hg : Tryz.prog.globalNamed n = some g) (h : W.var? Tryz.prog n = some cs) : ∃ t F, W.heap[g]? = some (.cells cs t F) := by
  unfold World.var? at h
  rw [hg] at h
  simp only [Option.bind_some] at h
  split at h
  · rename_i c t F hc; cases h; exact ⟨t, F, hc⟩
  · cases h

theorem heap_cell {W : World} {a : Addr} {v : Value} (h : W.cell? a = some v) : a.spot = none ∧ ∃ C t F, W.heap[a.block]? = some (.cells C t F) ∧ C[a.off]? = some v := by
  unfold World.cell? at h
  split at h
  · rename_i C t F hc
    split at h
    · cases h
    · rename_i hs
      exact ⟨by simpa using hs, C, t, F, hc, h⟩
  · cases h

/-- What was laid, as the first relation. -/
theorem start {W : World} (h : laidMetH Tryz.prog lst W) : ∃ t1 t4 t5 t8 t9 ι, @Rep Tryz.prog (Gh.of W) ι (st t1 t4 t5 t8 t9) W := by
  rw [MakeChecks.laidMetH_plain _ _ _ (by kernel_rfl)] at h
  obtain ⟨ps, hl, hnd, hrows⟩ := h
  obtain ⟨_, _, _, _, _, _, _, _, _, _, hl, e1⟩ := hl
  obtain ⟨_, _, _, _, _, _, _, _, _, _, hl, e2⟩ := hl
  obtain ⟨g1, u1, cs1, f1, p1, q1, hg1, ht1, hv1, hd1, hl, e3⟩ := hl
  obtain ⟨_, _, _, _, _, _, _, _, _, _, hl, e4⟩ := hl
  obtain ⟨g5, u5, cs5, f5, p5, q5, hg5, ht5, hv5, hd5, hl, e5⟩ := hl
  obtain ⟨g4, u4, cs4, f4, p4, q4, hg4, ht4, hv4, hd4, hl, e6⟩ := hl
  obtain rfl := Option.some.inj (gPow.symm.trans hg1)
  obtain rfl := Option.some.inj (gRange.symm.trans hg5)
  obtain rfl := Option.some.inj (gSyntax.symm.trans hg4)
  obtain rfl := Option.some.inj (tPow.symm.trans ht1)
  obtain rfl := Option.some.inj (tRange.symm.trans ht5)
  obtain rfl := Option.some.inj (tSyntax.symm.trans ht4)
  have hm5 : ∀ x ∈ MemPlace.row ⟨5, 0, none⟩ cs5.size ++ p5, x ∈ ps := by
    intro x hx
    subst e1 e2 e3 e4 e5
    exact List.mem_append_right _ (List.mem_append_right _ (List.mem_append_right _ (List.mem_append_right _ (List.mem_append_left _ hx))))
  have hm4 : ∀ x ∈ MemPlace.row ⟨4, 0, none⟩ cs4.size ++ p4, x ∈ ps := by
    intro x hx
    subst e1 e2 e3 e4 e5 e6
    exact List.mem_append_right _ (List.mem_append_right _ (List.mem_append_right _ (List.mem_append_right _ (List.mem_append_right _ (List.mem_append_left _ hx)))))
  have ok : ∀ (g : Nat) (n : String) (cs : Array Value), Tryz.prog.globalNamed n = some g → W.var? Tryz.prog n = some cs → (∀ x ∈ MemPlace.row ⟨g, 0, none⟩ cs.size, x ∈ ps) → ∀ u v, cs.toList = [.iface u v] → Value.okWide Tryz.prog W .any 0 u v := by
    intro g n cs hg hv hm u v e
    obtain ⟨l⟩ := cs
    simp only at e
    subst e
    exact (hrows g 0 (hm _ (by simp [MemPlace.row]))).2 u v (by simpa using World.var?_cell hg hv 0)
  obtain ⟨a5, s5, e5', hc5, hs5, _, hp5⟩ := errorString_of_trod Tryz.underlying52 row162 Tryz.underlying162 Tryz.underlying164 rfl rfl Tryz.underlying9 c164 c9 hd5 (ok 5 _ cs5 gRange hv5 fun x hx => hm5 x (List.mem_append_left _ hx))
  obtain ⟨a4, s4, e4', hc4, hs4, _, hp4⟩ := errorString_of_trod Tryz.underlying52 row162 Tryz.underlying162 Tryz.underlying164 rfl rfl Tryz.underlying9 c164 c9 hd4 (ok 4 _ cs4 gSyntax hv4 fun x hx => hm4 x (List.mem_append_left _ hx))
  have e1' : cs1.toList = pow10.map (Value.int .u64) := table_cells Tryz.underlying147 Tryz.underlying96 c96 c147 (ns := pow10) hd1
  obtain ⟨t1, F1, h1⟩ := heap_of gPow hv1
  obtain ⟨t5, F5, h5⟩ := heap_of gRange hv5
  obtain ⟨t4, F4, h4⟩ := heap_of gSyntax hv4
  obtain ⟨b5, o5, sp5⟩ := a5
  obtain ⟨b4, o4, sp4⟩ := a4
  obtain ⟨hsp5, C9, t9, F9, h9, h9'⟩ := heap_cell hc5
  obtain ⟨hsp4, C8, t8, F8, h8, h8'⟩ := heap_cell hc4
  simp only at hsp5 hsp4 h9 h9' h8 h8'
  subst hsp5 hsp4
  let ι : Inj := fun i => if i < 8 then some ⟨i, 0, 0⟩ else if i = 8 then some ⟨b4, o4, 0⟩ else if i = 9 then some ⟨b5, o5, 0⟩ else none
  have str : ∀ {s : ByteArray} {l : List UInt8}, s.data.toList = l → Value.string s = .string ⟨l.toArray⟩ := by
    intro s l e
    subst e
    simp
  refine ⟨t1, t4, t5, t8, t9, ι, Rep.start (fun {i l} hi => ?_) (fun {i o} ho => ?_) (fun {i l o} hi ho => ?_) (fun g hg => ?_)⟩
  · show i < 10
    simp only [ι] at hi
    split at hi
    · omega
    · split at hi
      · omega
      · split at hi
        · omega
        · cases hi
  · rw [st_at] at ho
    repeat' split at ho
    all_goals (cases ho; try rfl)
  · rw [st_at] at ho
    split at ho
    · rename_i e; subst e; cases ho; cases hi
      refine Holds.ro (xs := [.string s5]) (C := C9) h9 rfl (by simp only [gams, gam]; rw [str hs5]; rfl) (fun k hk => ?_) ?_
      · have : k = 0 := by simpa using hk
        subst this; simpa using h9'
      · have := (Array.getElem?_eq_some_iff.1 h9').1
        simp; omega
    split at ho
    · rename_i e; subst e; cases ho; cases hi
      refine Holds.ro (xs := cs5.toList) (C := cs5) h5 rfl (by rw [e5']; simp [gams, gam, ι]) (fun k hk => by simp) (by simp)
    split at ho
    · rename_i e; subst e; cases ho; cases hi
      refine Holds.ro (xs := [.string s4]) (C := C8) h8 rfl (by simp only [gams, gam]; rw [str hs4]; rfl) (fun k hk => ?_) ?_
      · have : k = 0 := by simpa using hk
        subst this; simpa using h8'
      · have := (Array.getElem?_eq_some_iff.1 h8').1
        simp; omega
    split at ho
    · rename_i e; subst e; cases ho; cases hi
      refine Holds.ro (xs := cs4.toList) (C := cs4) h4 rfl (by rw [e4']; simp [gams, gam, ι]) (fun k hk => by simp) (by simp)
    split at ho
    · rename_i e; subst e; cases ho; cases hi
      refine Holds.ro (xs := cs1.toList) (C := cs1) h1 rfl (by rw [e1']; exact gams_ints _ _) (fun k hk => by simp) (by simp)
    · cases ho
  · rw [size8] at hg
    simp [ι, hg]

/-- The call, in whatever memory that holds what was laid. -/
theorem walk {W : World} (h : laidMetH Tryz.prog lst W) : Calls Tryz.prog 3 #[] W fun e W' => e = .returned (.bool true) ∧ Kept W W' := by
  obtain ⟨t1, t4, t5, t8, t9, ι, hrep⟩ := start h
  obtain ⟨τ, hτ⟩ := Den.isTrue_spec (runs t1 t4 t5 t8 t9)
  have hc : @CallOK (Gh.of W) Tryz.prog (gfn Ia.K Ia.KD (primT Ia.ptab) 5000 noY) :=
    letI : Gh := Gh.of W
    gfn_sim funcs_few (fun _ _ => Ia.Kis) (fun _ _ => Ia.KDis) (fun G => @primT_ok G _ funcs_few _ prims) 5000 (Gh.of W) noY (@noY_ok Tryz.prog (Gh.of W))
  refine (calls_of hc funcs_few Tryz.func3 (by kernel_rfl) (by kernel_rfl) hτ (xs := []) (by simp [gams]) hrep).mono ?_
  rintro e W' ⟨x, rfl, ⟨κ, _, hx⟩, hk⟩
  simp [gam] at hx
  subst hx
  exact ⟨rfl, hk⟩


end Go.Proofs.YtnjpahkdlffpcaaGreatDoor
end
