/- Part DenA: an interpreter of the program's operations over abstract memory, its laws, and what it tells of the statement. No condition. -/
import Derived.Calls
import Derived.Orders
import Derived.Defers
import Derived.Recover
import Derived.Laws.Sem
import Derived.Laws.Cells
import Derived.Laws.Entries
import Derived.Laws.Tables
import Derived.Laws.Strings
import Derived.Laws.BytesString
set_option linter.unusedVariables false
set_option linter.unusedSimpArgs false
set_option linter.unusedSectionVars false
section
/- Values, heap and the relation between an abstract heap and the model's: the base of the abstract interpreter. No condition. -/
namespace Go.Den

/-- Abstract values: a pointer is a block's number and a place in it; a slice's capacity, if 'opn', is what is known of it, and some more. -/
inductive V where
  | bool (b : Bool)
  | int (k : IntKind) (n : Int)
  | str (s : List UInt8)
  | ptr (a : Option (Nat × Nat))
  | slice (a : Option (Nat × Nat)) (len cap : Nat) (opn : Bool)
  | map (r : Option Nat)
  | func (fn : Fn) (first captured : List V)
  | nilFunc
  | iface (t : Nat) (v : V)
  | nilIface
  | agg (cs : List V)
  | tuple (vs : List V)
  | yld (k : Nat)
  deriving Inhabited

/-- Where an abstract block lies in the model's heap: the block, the place of its first cell, how many elements are to spare behind it. -/
structure Loc where
  b : Nat
  off : Nat
  spare : Nat

abbrev Inj := Nat → Option Loc

def capO (op : Bool) (c sp : Nat) : Nat := match op with
  | true => c + sp
  | false => c

mutual
def gam (ι : Inj) : V → Option Value
  | .bool b => some (.bool b)
  | .int k n => some (.int k n)
  | .str s => some (.string ⟨s.toArray⟩)
  | .ptr none => some (.pointer none)
  | .ptr (some (i, o)) => match ι i with
    | some l => some (.pointer (some ⟨l.b, l.off + o, none⟩))
    | none => none
  | .slice none n c false => some (.slice none n c)
  | .slice none _ _ true => none
  | .slice (some (i, o)) n c op => match ι i with
    | some l => some (.slice (some ⟨l.b, l.off + o, none⟩) n (capO op c l.spare))
    | none => none
  | .map none => some (.map none)
  | .map (some r) => match ι r with
    | some l => some (.map (some l.b))
    | none => none
  | .func fn f c => match gams ι f, gams ι c with
    | some f', some c' => some (.func fn f'.toArray c'.toArray)
    | _, _ => none
  | .nilFunc => some .nilFunc
  | .iface t v => match gam ι v with
    | some x => some (.iface t x)
    | none => none
  | .nilIface => some .nilIface
  | .agg cs => match gams ι cs with
    | some l => some (.agg l.toArray)
    | none => none
  | .tuple cs => match gams ι cs with
    | some l => some (.tuple l.toArray)
    | none => none
  | .yld k => match ι k with
    | some l => some (.func (.yield l.b) #[] #[])
    | none => none
def gams (ι : Inj) : List V → Option (List Value)
  | [] => some []
  | v :: l => match gam ι v, gams ι l with
    | some x, some xs => some (x :: xs)
    | _, _ => none
end

def Inj.le (ι κ : Inj) : Prop := ∀ i l, ι i = some l → κ i = some l

theorem Inj.le_refl (ι : Inj) : ι.le ι := fun _ _ h => h
theorem Inj.le_trans {ι κ μ : Inj} (h : ι.le κ) (h' : κ.le μ) : ι.le μ := fun i l hi => h' i l (h i l hi)

theorem gams_cons {ι : Inj} {v : V} {l : List V} {L : List Value} :
    gams ι (v :: l) = some L ↔ ∃ x xs, gam ι v = some x ∧ gams ι l = some xs ∧ L = x :: xs := by
  rw [gams]
  constructor
  · intro h
    split at h
    · rename_i x xs h1 h2
      cases h
      exact ⟨x, xs, h1, h2, rfl⟩
    · cases h
  · rintro ⟨x, xs, h1, h2, rfl⟩
    rw [h1, h2]

mutual
theorem gam_mono {ι κ : Inj} (h : ι.le κ) : ∀ (v : V) {x : Value}, gam ι v = some x → gam κ v = some x
  | .bool b, _, e => by simpa [gam] using e
  | .int k n, _, e => by simpa [gam] using e
  | .str s, _, e => by simpa [gam] using e
  | .ptr none, _, e => by simpa [gam] using e
  | .ptr (some (i, o)), x, e => by
    rw [gam] at e ⊢
    cases hi : ι i with
    | none => rw [hi] at e; cases e
    | some l => rw [hi] at e; rw [h i l hi]; exact e
  | .slice none n c false, _, e => by simpa [gam] using e
  | .slice none n c true, _, e => by simp [gam] at e
  | .slice (some (i, o)) n c op, x, e => by
    rw [gam] at e ⊢
    cases hi : ι i with
    | none => rw [hi] at e; cases e
    | some l => rw [hi] at e; rw [h i l hi]; exact e
  | .map none, _, e => by simpa [gam] using e
  | .map (some r), x, e => by
    rw [gam] at e ⊢
    cases hi : ι r with
    | none => rw [hi] at e; cases e
    | some l => rw [hi] at e; rw [h r l hi]; exact e
  | .func fn f c, x, e => by
    rw [gam] at e ⊢
    split at e
    · rename_i f' c' h1 h2
      rw [gams_mono h f h1, gams_mono h c h2]
      exact e
    · cases e
  | .nilFunc, _, e => by simpa [gam] using e
  | .iface t v, x, e => by
    rw [gam] at e ⊢
    split at e
    · rename_i y h1
      rw [gam_mono h v h1]
      exact e
    · cases e
  | .nilIface, _, e => by simpa [gam] using e
  | .agg cs, x, e => by
    rw [gam] at e ⊢
    split at e
    · rename_i l h1
      rw [gams_mono h cs h1]
      exact e
    · cases e
  | .tuple cs, x, e => by
    rw [gam] at e ⊢
    split at e
    · rename_i l h1
      rw [gams_mono h cs h1]
      exact e
    · cases e
  | .yld k, x, e => by
    rw [gam] at e ⊢
    cases hi : ι k with
    | none => rw [hi] at e; cases e
    | some l => rw [hi] at e; rw [h k l hi]; exact e
theorem gams_mono {ι κ : Inj} (h : ι.le κ) : ∀ (l : List V) {L : List Value}, gams ι l = some L → gams κ l = some L
  | [], _, e => by simpa [gams] using e
  | v :: l, L, e => by
    obtain ⟨x, xs, h1, h2, rfl⟩ := gams_cons.1 e
    exact gams_cons.2 ⟨x, xs, gam_mono h v h1, gams_mono h l h2, rfl⟩
end

theorem gams_length {ι : Inj} : ∀ {l : List V} {L : List Value}, gams ι l = some L → L.length = l.length
  | [], _, e => by simp [gams] at e; subst e; rfl
  | v :: l, L, e => by
    obtain ⟨x, xs, h1, h2, rfl⟩ := gams_cons.1 e
    simp [gams_length h2]

theorem gams_get {ι : Inj} : ∀ {l : List V} {L : List Value}, gams ι l = some L → ∀ {i : Nat} {v : V}, l[i]? = some v → ∃ x, L[i]? = some x ∧ gam ι v = some x
  | [], _, _, i, v, h => by simp at h
  | w :: l, L, e, i, v, h => by
    obtain ⟨x, xs, h1, h2, rfl⟩ := gams_cons.1 e
    cases i with
    | zero => simp at h; subst h; exact ⟨x, by simp, h1⟩
    | succ i => simp at h; obtain ⟨y, hy, hv⟩ := gams_get h2 h; exact ⟨y, by simpa using hy, hv⟩

theorem gams_append {ι : Inj} : ∀ {l m : List V} {L M : List Value}, gams ι l = some L → gams ι m = some M → gams ι (l ++ m) = some (L ++ M)
  | [], _, _, _, e, e' => by simp [gams] at e; subst e; simpa using e'
  | v :: l, m, L, M, e, e' => by
    obtain ⟨x, xs, h1, h2, rfl⟩ := gams_cons.1 e
    exact gams_cons.2 ⟨x, xs ++ M, h1, gams_append h2 e', rfl⟩

theorem gams_take {ι : Inj} : ∀ (n : Nat) {l : List V} {L : List Value}, gams ι l = some L → gams ι (l.take n) = some (L.take n)
  | 0, _, _, _ => by simp [gams]
  | n + 1, [], _, e => by simp [gams] at e; subst e; simp [gams]
  | n + 1, v :: l, L, e => by
    obtain ⟨x, xs, h1, h2, rfl⟩ := gams_cons.1 e
    exact gams_cons.2 ⟨x, _, h1, gams_take n h2, rfl⟩

theorem gams_drop {ι : Inj} : ∀ (n : Nat) {l : List V} {L : List Value}, gams ι l = some L → gams ι (l.drop n) = some (L.drop n)
  | 0, _, _, e => by simpa using e
  | n + 1, [], _, e => by simp [gams] at e; subst e; simp [gams]
  | n + 1, v :: l, L, e => by
    obtain ⟨x, xs, h1, h2, rfl⟩ := gams_cons.1 e
    simpa using gams_drop n h2

theorem gams_set {ι : Inj} {v : V} {x : Value} (hv : gam ι v = some x) : ∀ (i : Nat) {l : List V} {L : List Value}, gams ι l = some L → gams ι (l.set i v) = some (L.set i x)
  | _, [], _, e => by simp [gams] at e; subst e; simp [gams]
  | 0, w :: l, L, e => by
    obtain ⟨y, ys, h1, h2, rfl⟩ := gams_cons.1 e
    exact gams_cons.2 ⟨x, ys, hv, h2, rfl⟩
  | i + 1, w :: l, L, e => by
    obtain ⟨y, ys, h1, h2, rfl⟩ := gams_cons.1 e
    exact gams_cons.2 ⟨y, _, h1, gams_set hv i h2, rfl⟩

/-- From cells one by one to a list of them. -/
theorem gams_of {ι : Inj} : ∀ {l : List V} {L : List Value}, L.length = l.length → (∀ (i : Nat) v, l[i]? = some v → ∃ x, L[i]? = some x ∧ gam ι v = some x) → gams ι l = some L
  | [], L, h, _ => by
    have : L = [] := List.eq_nil_of_length_eq_zero (by simpa using h)
    subst this
    simp [gams]
  | v :: l, [], h, _ => by simp at h
  | v :: l, x :: L, h, hh => by
    obtain ⟨y, hy, hg⟩ := hh 0 v (by simp)
    simp at hy
    subst hy
    exact gams_cons.2 ⟨x, L, hg, gams_of (by simpa using h) (fun i v hi => by simpa using hh (i + 1) v (by simpa using hi)), rfl⟩

theorem gams_replicate {ι : Inj} {v : V} {x : Value} (hv : gam ι v = some x) : ∀ n, gams ι (List.replicate n v) = some (List.replicate n x)
  | 0 => by simp [gams]
  | n + 1 => by
    rw [List.replicate_succ, List.replicate_succ]
    exact gams_cons.2 ⟨x, _, hv, gams_replicate hv n, rfl⟩

/-! ### A heap's tree -/
inductive Tr (α : Type) where
  | leaf
  | node (l : Tr α) (v : Option α) (r : Tr α)
  deriving Inhabited

def Tr.get {α : Type} : Tr α → Nat → Option α
  | .leaf, _ => none
  | .node l v r, n => match Nat.beq n 0 with
    | true => v
    | false => match Nat.beq (n % 2) 1 with
      | true => l.get (n / 2)
      | false => r.get (n / 2 - 1)

def Tr.setF {α : Type} (v : Option α) : Nat → Tr α → Nat → Tr α
  | 0, t, _ => t
  | f + 1, .leaf, n => match Nat.beq n 0 with
    | true => .node .leaf v .leaf
    | false => match Nat.beq (n % 2) 1 with
      | true => .node (Tr.setF v f .leaf (n / 2)) none .leaf
      | false => .node .leaf none (Tr.setF v f .leaf (n / 2 - 1))
  | f + 1, .node l u r, n => match Nat.beq n 0 with
    | true => .node l v r
    | false => match Nat.beq (n % 2) 1 with
      | true => .node (Tr.setF v f l (n / 2)) u r
      | false => .node l u (Tr.setF v f r (n / 2 - 1))

def Tr.set {α : Type} (t : Tr α) (n : Nat) (v : Option α) : Tr α := Tr.setF v (n + 1) t n

theorem Tr.get_setF {α : Type} (v : Option α) : ∀ (f : Nat) (t : Tr α) (n m : Nat), n < f → (Tr.setF v f t n).get m = if m = n then v else t.get m := by
  intro f
  induction f with
  | zero => intro t n m h; omega
  | succ f ih =>
    intro t n m h
    have key : ∀ (l r : Tr α) (u : Option α), (match Nat.beq n 0 with
      | true => Tr.node l v r
      | false => match Nat.beq (n % 2) 1 with
        | true => .node (Tr.setF v f l (n / 2)) u r
        | false => .node l u (Tr.setF v f r (n / 2 - 1))).get m = if m = n then v else (Tr.node l u r).get m := by
      intro l r u
      by_cases h0 : n = 0
      · subst h0
        simp only [Nat.beq, Tr.get]
        by_cases hm : m = 0
        · subst hm; simp [Nat.beq]
        · have : Nat.beq m 0 = false := by rw [Bool.eq_false_iff]; intro hh; exact hm (Nat.eq_of_beq_eq_true hh)
          simp [this, hm]
      · have hn0 : Nat.beq n 0 = false := by rw [Bool.eq_false_iff]; intro hh; exact h0 (Nat.eq_of_beq_eq_true hh)
        simp only [hn0]
        by_cases hm : m = 0
        · subst hm
          have : ¬ (0 = n) := fun e => h0 e.symm
          simp only [this, if_false]
          split <;> simp [Tr.get]
        · have hm0 : Nat.beq m 0 = false := by rw [Bool.eq_false_iff]; intro hh; exact hm (Nat.eq_of_beq_eq_true hh)
          by_cases h1 : n % 2 = 1
          · have hn1 : Nat.beq (n % 2) 1 = true := by rw [h1]; rfl
            simp only [hn1, Tr.get, hm0]
            by_cases h2 : m % 2 = 1
            · have hm1 : Nat.beq (m % 2) 1 = true := by rw [h2]; rfl
              simp only [hm1]
              rw [ih _ _ _ (by omega)]
              by_cases e : m = n
              · simp [e]
              · have : ¬ (m / 2 = n / 2) := by omega
                simp [e, this]
            · have hm1 : Nat.beq (m % 2) 1 = false := by rw [Bool.eq_false_iff]; intro hh; exact h2 (Nat.eq_of_beq_eq_true hh)
              simp only [hm1]
              have : ¬ (m = n) := fun e => h2 (e ▸ h1)
              simp [this]
          · have hn1 : Nat.beq (n % 2) 1 = false := by rw [Bool.eq_false_iff]; intro hh; exact h1 (Nat.eq_of_beq_eq_true hh)
            simp only [hn1, Tr.get, hm0]
            by_cases h2 : m % 2 = 1
            · have hm1 : Nat.beq (m % 2) 1 = true := by rw [h2]; rfl
              simp only [hm1]
              have : ¬ (m = n) := fun e => h1 (e ▸ h2)
              simp [this]
            · have hm1 : Nat.beq (m % 2) 1 = false := by rw [Bool.eq_false_iff]; intro hh; exact h2 (Nat.eq_of_beq_eq_true hh)
              simp only [hm1]
              rw [ih _ _ _ (by omega)]
              by_cases e : m = n
              · simp [e]
              · have : ¬ (m / 2 - 1 = n / 2 - 1) := by omega
                simp [e, this]
    cases t with
    | node l u r => exact key l r u
    | leaf =>
      have := key .leaf .leaf none
      have hl : ∀ k, (Tr.node (α := α) .leaf none .leaf).get k = Tr.leaf.get k := by
        intro k; simp only [Tr.get]; split <;> (try split) <;> rfl
      rw [hl] at this
      exact this

theorem Tr.get_set {α : Type} (t : Tr α) (n m : Nat) (v : Option α) : (t.set n v).get m = if m = n then v else t.get m :=
  Tr.get_setF v (n + 1) t n m (by omega)
theorem Tr.get_set_self {α : Type} (t : Tr α) (n : Nat) (v : Option α) : (t.set n v).get n = v := by rw [Tr.get_set]; simp
theorem Tr.get_set_ne {α : Type} (t : Tr α) {n m : Nat} (v : Option α) (h : m ≠ n) : (t.set n v).get m = t.get m := by rw [Tr.get_set]; simp [h]

/-- A block: a row of cells (frozen between lo and hi at most; 'ro': never written), or a map. -/
inductive Blk where
  | row (cells : List V) (elem : Nat) (lo hi : Nat) (ro : Bool)
  | mp (es : List (V × V))
  | lp (c : Nat)
  | df
  deriving Inhabited

def Blk.rw : Blk → Bool
  | .row _ _ _ _ ro => !ro
  | .mp _ => true
  | .lp _ => false
  | .df => true

def Blk.isLp : Blk → Bool
  | .lp _ => true
  | _ => false

structure St where
  next : Nat
  heap : Tr Blk
  deriving Inhabited

def St.at (σ : St) (i : Nat) : Option Blk := σ.heap.get i
def St.put (σ : St) (i : Nat) (o : Option Blk) : St := { σ with heap := σ.heap.set i o }
def St.new (σ : St) (o : Blk) : St := { next := σ.next + 1, heap := σ.heap.set σ.next (some o) }

theorem St.at_put (σ : St) (i j : Nat) (o : Option Blk) : (σ.put i o).at j = if j = i then o else σ.at j := Tr.get_set _ _ _ _
theorem St.at_new (σ : St) (j : Nat) (o : Blk) : (σ.new o).at j = if j = σ.next then some o else σ.at j := Tr.get_set _ _ _ _

/-- An abstract block as it lies in the model's heap. -/
def Holds (P : Program) (ι : Inj) (l : Loc) (H : Array Obj) : Blk → Prop
  | .row cs e lo hi ro => ∃ C F, H[l.b]? = some (.cells C e F) ∧ l.off + cs.length + l.spare * P.cellsOf e ≤ C.size ∧
      (∀ (o : Nat) v, cs[o]? = some v → ∃ x, C[l.off + o]? = some x ∧ gam ι v = some x) ∧
      (ro = false → ∀ o, F.1 ≤ l.off + o → l.off + o < F.2 → o < cs.length + l.spare * P.cellsOf e → lo ≤ o ∧ o < hi)
  | .mp es => ∃ E, H[l.b]? = some (.map E es.length) ∧ E.size = es.length ∧
      (∀ (o : Nat) k v, es[o]? = some (k, v) → ∃ e : MapEntry, E[o]? = some e ∧ gam ι k = some e.key ∧ gam ι v = some e.val ∧ e.born = o)
  | .lp _ => ∃ r, H[l.b]? = some (.loop r)
  | .df => H[l.b]? = some (.deferred (some []))

/-- Nothing of the first world is changed. -/
structure Kept (g w : World) : Prop where
  os : w.os = g.os
  out : w.output = g.output
  heap : ∀ b, b < g.heap.size → w.heap[b]? = g.heap[b]?

theorem Kept.size {g w : World} (h : Kept g w) : g.heap.size ≤ w.heap.size := by
  refine Nat.le_of_not_lt fun hlt => ?_
  have := h.heap _ hlt
  rw [Array.getElem?_eq_getElem hlt] at this
  simp at this

/-- Nothing but the heap. -/
def Sm (w w' : World) : Prop := w'.os = w.os ∧ w'.output = w.output

/-- What is kept beside: of both states; which blocks may be written; which abstract blocks stay as they are. -/
class Gh where
  keep : St → World → Prop
  pub : Nat → Prop
  fix : Nat → Prop
  loc : Nat → Loc → Prop
  fresh : ∀ {σ w k}, keep σ w → w.heap.size ≤ k → pub k
  turn : ∀ {σ τ w w'}, keep σ w → (∀ k, k < w.heap.size → ¬ pub k → w'.heap[k]? = w.heap[k]?) → Sm w w' → (∀ i, fix i → τ.at i = σ.at i) → keep τ w'

/-- Nothing of a world is changed. -/
@[reducible] def Gh.of (g : World) : Gh where
  keep _ w := Kept g w
  pub k := g.heap.size ≤ k
  fix _ := False
  loc _ _ := False
  fresh h hk := Nat.le_trans h.size hk
  turn h hh hs _ := ⟨hs.1.trans h.os, hs.2.trans h.out, fun b hb => by
    have := h.size
    rw [hh b (by omega) (by omega)]; exact h.heap b hb⟩

structure Rep (P : Program) [G : Gh] (ι : Inj) (σ : St) (w : World) : Prop where
  low : ∀ {i l}, ι i = some l → i < σ.next
  obj : ∀ {i l o}, ι i = some l → σ.at i = some o → Holds P ι l w.heap o
  kept : G.keep σ w
  own : ∀ {i l o}, ι i = some l → σ.at i = some o → o.rw = true → G.pub l.b
  fixd : ∀ {i}, G.fix i → i < σ.next ∧ ∃ o, σ.at i = some o ∧ o.isLp = true
  locd : ∀ {i l}, G.loc i l → ι i = some l
  org : ∀ {i l cs e}, ι i = some l → σ.at i = some (.row cs e 0 0 false) → l.off = 0
  inj : ∀ {i j l m oi oj}, ι i = some l → ι j = some m → σ.at i = some oi → σ.at j = some oj → i ≠ j → oi.rw = true → l.b ≠ m.b
  glob : ∀ g, g < P.globals.size → ι g = some ⟨g, 0, 0⟩

theorem Holds.mono {P : Program} {ι κ : Inj} (h : ι.le κ) {l : Loc} {H : Array Obj} : ∀ {o : Blk}, Holds P ι l H o → Holds P κ l H o
  | .row cs e lo hi ro, ⟨C, F, h1, h2, h3, h4⟩ => ⟨C, F, h1, h2, fun o v hv => let ⟨x, a, b⟩ := h3 o v hv; ⟨x, a, gam_mono h v b⟩, h4⟩
  | .mp es, ⟨E, h1, h2, h3⟩ => ⟨E, h1, h2, fun o k v hv => let ⟨e, a, b, d, g⟩ := h3 o k v hv; ⟨e, a, gam_mono h k b, gam_mono h v d, g⟩⟩
  | .lp _, h => h
  | .df, h => h

/-- A block that reads the same in another heap. -/
theorem Holds.heap {P : Program} {ι : Inj} {l : Loc} {H K : Array Obj} (e : K[l.b]? = H[l.b]?) : ∀ {o : Blk}, Holds P ι l H o → Holds P ι l K o
  | .row cs _ lo hi ro, ⟨C, F, h1, h⟩ => ⟨C, F, e.trans h1, h⟩
  | .mp es, ⟨E, h1, h⟩ => ⟨E, e.trans h1, h⟩
  | .lp _, ⟨r, h⟩ => ⟨r, e.trans h⟩
  | .df, h => e.trans h

theorem Holds.lt {P : Program} {ι : Inj} {l : Loc} {H : Array Obj} : ∀ {o : Blk}, Holds P ι l H o → l.b < H.size
  | .row .., ⟨_, _, h, _⟩ => (Array.getElem?_eq_some_iff.1 h).1
  | .mp .., ⟨_, h, _⟩ => (Array.getElem?_eq_some_iff.1 h).1
  | .lp _, ⟨_, h⟩ => (Array.getElem?_eq_some_iff.1 h).1
  | .df, h => (Array.getElem?_eq_some_iff.1 h).1

end Go.Den
end

section
/- The abstract interpreter: its operations, code and functions. Definitions alone. -/
namespace Go.Den

inductive A where
  | t (n : Nat)
  | c (v : V)
  | g (n : Nat)
  | f (n : Nat)
  deriving Inhabited

abbrev E := List (Nat × V)

def E.get : E → Nat → Option V
  | [], _ => none
  | (k, v) :: e, t => match Nat.beq k t with
    | true => some v
    | false => E.get e t

def E.put (e : E) : Option Nat → V → E
  | some d, v => (d, v) :: e
  | none, _ => e

def ev (e : E) : A → Option V
  | .t n => E.get e n
  | .c v => some v
  | .g n => some (.ptr (some (n, 0)))
  | .f n => some (.func (.func n) [] [])

def evs (e : E) : List A → Option (List V)
  | [] => some []
  | a :: l => match ev e a with
    | some v => match evs e l with
      | some vs => some (v :: vs)
      | none => none
    | none => none

mutual
/-- How two values of a type are compared. -/
inductive ET where
  | bool | int | str | ptr | slice | map | func
  | iface (ok : Bool) (ts : TT)
  | agg (ps : PT)
/-- How the values of these types are compared, where an interface holds them. -/
inductive TT where
  | nil
  | cons (t : Nat) (et : ET) (ts : TT)
inductive PT where
  | nil
  | cons (t : ET) (off : Nat) (agg : Bool) (size : Nat) (ps : PT)
end

/-- The kinds of a map's keys. -/
inductive KT where
  | int | str
  | recd (ps : PT)

/-- The operations; what they ask of types stands in them. -/
inductive H where
  | mv
  | pick
  | alloc (elem : Nat) (zs : List V)
  | box (elem : Nat)
  | build (zs : List V) (parts : List (Nat × Nat))
  | bslice (elem : Nat) (len : Nat) (zs : List V) (parts : List (Nat × Nat))
  | load1
  | loadN (n : Nat)
  | store (n : Nat)
  | nilCheck
  | bin (op : BinOp)
  | eq (neg : Bool) (t : ET)
  | un (op : UnOp)
  | toInt (k : IntKind)
  | strId
  | toBytes (elem : Nat)
  | ofBytes
  | mkIface (t : Nat)
  | mkFunc (fn : Fn) (first : Nat)
  | toUns
  | ofUns (u n : Nat)
  | sliceData
  | unsStr (elem : Nat)
  | mkMap
  | mkSlice (elem size bytes : Nat) (zs : List V)
  | sliceStr (lo hi : Bool)
  | sliceSl (size : Nat) (lo hi mx : Bool)
  | sliceArr (n size : Nat) (lo hi mx : Bool)
  | fieldAddr (off : Nat)
  | field1 (off : Nat)
  | fieldN (off n : Nat)
  | ixAddrArr (n size : Nat)
  | ixAddrSl (size : Nat)
  | ixArr1 (n : Nat)
  | ixArrN (n size : Nat)
  | ixStr
  | lookup (kt : KT) (ok : Bool) (zero : V)
  | mapUpd (kt : KT)
  | mapEntry (kt : KT) (zero : V)
  | entryStore
  | assert (t : Nat) (ok : Bool) (zero : V)
  | extract (i : Nat)
  | call
  | invoke (tab : List (Nat × Nat))
  | lenStr
  | lenSl
  | lenArr (n : Nat)
  | lenMap
  | capSl
  | append (elem size bytes : Nat)
  | copy (size : Nat)
  | clearSl (zs : List V)
  | min
  | max
  | defer
  | panic
  | recover

inductive Cls where
  | look | alloc | act
  deriving DecidableEq

def H.cls : H → Cls
  | .alloc .. => .alloc
  | .box .. | .bslice .. | .store .. | .toBytes .. | .mkMap | .mkSlice .. | .mapUpd _ | .mapEntry .. | .entryStore | .call | .invoke .. | .append .. | .copy .. | .clearSl .. | .unsStr _ | .defer | .panic | .recover => .act
  | _ => .look

inductive Out where
  | val (v : V) (σ : St)
  | skip (σ : St)
  | enter (f : Nat) (args : List V) (σ : St)
  | round (k : Nat) (args : List V) (σ : St)
  | panic (v : V) (σ : St)
  | dfr (fn : Fn) (cap args : List V) (σ : St)

def undefV : V := .tuple []

/-- A value's cells. -/
def V.cells : V → List V
  | .agg cs => cs
  | v => [v]

def listSub (l : List V) (off n : Nat) : Option (List V) := match Nat.ble (off + n) l.length with
  | true => some ((l.drop off).take n)
  | false => none

def listPut {α : Type} (l : List α) (off : Nat) : List α → List α
  | [] => l
  | v :: vs => listPut (l.set off v) (off + 1) vs

/-- Parts laid over cells. -/
def fillV (cs : List V) : List (Nat × Nat) → List V → Option (List V)
  | [], [] => some cs
  | (off, n) :: ps, v :: vs => match Nat.beq v.cells.length n with
    | true => match Nat.ble (off + n) cs.length with
      | true => fillV (listPut cs off v.cells) ps vs
      | false => none
    | false => none
  | _, _ => none

/-- Parts that stand one behind the other. -/
def fastF : Nat → List (Nat × Nat) → List V → Option (List V)
  | _, [], [] => some []
  | off, (o, n) :: ps, v :: vs => match Nat.beq o off && Nat.beq v.cells.length n with
    | true => match fastF (off + n) ps vs with
      | some l => some (v.cells ++ l)
      | none => none
    | false => none
  | _, _, _ => none

def fillW (cs : List V) (ps : List (Nat × Nat)) (vs : List V) : Option (List V) := match fastF 0 ps vs with
  | some l => match Nat.beq l.length cs.length with
    | true => some l
    | false => fillV cs ps vs
  | none => fillV cs ps vs

def repeatL (zs : List V) : Nat → List V
  | 0 => []
  | n + 1 => zs ++ repeatL zs n

def intBin (op : BinOp) (k : IntKind) (a b : Int) : Option V := match op with
  | .add => some (.int k (k.wrap (a + b)))
  | .sub => some (.int k (k.wrap (a - b)))
  | .mul => some (.int k (k.wrap (a * b)))
  | .quo => match decide (b = 0) with
    | true => none
    | false => some (.int k (k.wrap (a.tdiv b)))
  | .rem => match decide (b = 0) with
    | true => none
    | false => some (.int k (a.tmod b))
  | .and => some (.int k (k.wrap (BitVec.ofInt k.bits a &&& BitVec.ofInt k.bits b).toNat))
  | .or => some (.int k (k.wrap (BitVec.ofInt k.bits a ||| BitVec.ofInt k.bits b).toNat))
  | .xor => some (.int k (k.wrap (BitVec.ofInt k.bits a ^^^ BitVec.ofInt k.bits b).toNat))
  | .andNot => some (.int k (k.wrap (BitVec.ofInt k.bits a &&& ~~~BitVec.ofInt k.bits b).toNat))
  | .eql => some (.bool (a == b))
  | .neq => some (.bool (a != b))
  | .lss => some (.bool (decide (a < b)))
  | .leq => some (.bool (decide (a ≤ b)))
  | .gtr => some (.bool (decide (a > b)))
  | .geq => some (.bool (decide (a ≥ b)))
  | .shl | .shr => none

def shiftV (op : BinOp) (k : IntKind) (x y : Int) : Option V := match decide (y < 0) with
  | true => none
  | false => match op with
    | .shl => some (.int k (k.wrap (x * 2 ^ (Nat.min y.toNat k.bits))))
    | .shr => some (.int k (x.fdiv (2 ^ (Nat.min y.toNat k.bits))))
    | _ => none

def eqB : List UInt8 → List UInt8 → Bool
  | [], [] => true
  | a :: l, b :: m => match Nat.beq a.toNat b.toNat with
    | true => eqB l m
    | false => false
  | _, _ => false

def ltB : List UInt8 → List UInt8 → Bool
  | _, [] => false
  | [], _ :: _ => true
  | a :: x, b :: y => match Nat.blt a.toNat b.toNat with
    | true => true
    | false => match Nat.beq a.toNat b.toNat with
      | true => ltB x y
      | false => false

def strBin (op : BinOp) (x y : List UInt8) : Option V := match op with
  | .add => match Nat.blt (x.length + y.length) 4611686018427387904 with
    | true => some (.str (x ++ y))
    | false => none
  | .eql => some (.bool (eqB x y))
  | .neq => some (.bool (!eqB x y))
  | .lss => some (.bool (ltB x y))
  | .leq => some (.bool (ltB x y || eqB x y))
  | .gtr => some (.bool (!(ltB x y || eqB x y)))
  | .geq => some (.bool (!ltB x y))
  | _ => none

def binV (op : BinOp) : V → V → Option V
  | .int k a, .int k' b => match op with
    | .shl | .shr => shiftV op k a b
    | _ => match decide (k = k') with
      | true => intBin op k a b
      | false => none
  | .str a, .str b => strBin op a b
  | _, _ => none

def unV : UnOp → V → Option V
  | .neg, .int k n => some (.int k (k.wrap (0 - n)))
  | .xor, .int k n => some (.int k (k.wrap (BitVec.ofInt k.bits (if k.signed then -1 else k.max) ^^^ BitVec.ofInt k.bits n).toNat))
  | .not, .bool b => some (.bool !b)
  | _, _ => none

def partV (agg : Bool) (off n : Nat) (cs : List V) : Option V := match agg with
  | true => match listSub cs off n with
    | some l => some (.agg l)
    | none => none
  | false => cs[off]?

mutual
def eqV : ET → V → V → Option Bool
  | .bool, a, b => match a, b with
    | .bool x, .bool y => some (x == y)
    | _, _ => none
  | .int, a, b => match a, b with
    | .int k x, .int k' y => match decide (k = k') with
      | true => some (decide (x = y))
      | false => none
    | _, _ => none
  | .str, a, b => match a, b with
    | .str x, .str y => some (eqB x y)
    | _, _ => none
  | .ptr, a, b => match a, b with
    | .ptr none, .ptr y => some y.isNone
    | .ptr (some _), .ptr none => some false
    | .ptr (some p), .ptr (some q) => match Nat.beq p.1 q.1 && Nat.beq p.2 q.2 with
      | true => some true
      | false => none
    | _, _ => none
  | .iface ok ts, a, b => match a, b with
    | .nilIface, .nilIface => match ok with
      | true => some true
      | false => none
    | .nilIface, .iface _ _ => some false
    | .iface _ _, .nilIface => some false
    | .iface t x, .iface u y => match Nat.beq t u with
      | true => eqT ts t x y
      | false => some false
    | _, _ => none
  | .slice, a, b => match a, b with
    | .slice none _ _ _, .slice y _ _ _ => some y.isNone
    | .slice (some _) _ _ _, .slice none _ _ _ => some false
    | _, _ => none
  | .map, a, b => match a, b with
    | .map none, .map y => some y.isNone
    | .map (some _), .map none => some false
    | _, _ => none
  | .func, a, b => match a, b with
    | .nilFunc, .nilFunc => some true
    | .nilFunc, .func _ _ _ => some false
    | .func _ _ _, .nilFunc => some false
    | _, _ => none
  | .agg ps, a, b => match a, b with
    | .agg xs, .agg ys => eqP ps xs ys
    | _, _ => none
def eqT : TT → Nat → V → V → Option Bool
  | .nil, _, _, _ => none
  | .cons u et ts, t, x, y => match Nat.beq u t with
    | true => eqV et x y
    | false => eqT ts t x y
def eqP : PT → List V → List V → Option Bool
  | .nil, _, _ => some true
  | .cons t off a n ps, xs, ys => match partV a off n xs with
    | none => none
    | some x => match partV a off n ys with
      | none => none
      | some y => match eqV t x y with
        | some true => eqP ps xs ys
        | some false => some false
        | none => none
end

def bnd (v : V) (y : Nat) : Option Nat := match v with
  | .int _ i => match decide (0 ≤ i ∧ i ≤ (y : Int)) with
    | true => some i.toNat
    | false => none
  | _ => none

/-- The bounds that are told: the values behind the operand. -/
def bounds (len cap : Nat) (lo hi mx : Bool) (vs : List V) : Option (Nat × Nat × Nat) :=
  match lo, hi, mx, vs with
  | false, false, false, [] => some (0, len, cap)
  | true, false, false, [a] => match bnd a len with
    | some l => some (l, len, cap)
    | none => none
  | false, true, false, [b] => match bnd b cap with
    | some h => some (0, h, cap)
    | none => none
  | true, true, false, [a, b] => match bnd b cap with
    | some h => match bnd a h with
      | some l => some (l, h, cap)
      | none => none
    | none => none
  | false, true, true, [b, c] => match bnd c cap with
    | some m => match bnd b m with
      | some h => some (0, h, m)
      | none => none
    | none => none
  | true, true, true, [a, b, c] => match bnd c cap with
    | some m => match bnd b m with
      | some h => match bnd a h with
        | some l => some (l, h, m)
        | none => none
      | none => none
    | none => none
  | _, _, _, _ => none

def moved (a : Option (Nat × Nat)) (n : Nat) : Option (Nat × Nat) := match a with
  | some (i, o) => some (i, o + n)
  | none => none

def addrR (m l n : Nat) (a : Option (Nat × Nat)) : Option (Nat × Nat) := match Nat.beq m l with
  | true => a
  | false => moved a n

/-- A slice of a slice. 'opn': the capacity is at least 'cap', so what begins at its end is not told. -/
def resl (size : Nat) (a : Option (Nat × Nat)) (opn : Bool) (mx : Bool) (l h m : Nat) : Option V :=
  match opn && !mx with
    | false => some (.slice (addrR m l (l * size) a) (h - l) (m - l) false)
    | true => match Nat.beq l 0 with
      | true => some (.slice a h m true)
      | false => match Nat.blt l m with
        | true => some (.slice (moved a (l * size)) (h - l) (m - l) true)
        | false => none

def St.row (σ : St) (i : Nat) : Option (List V) := match σ.at i with
  | some (.row cs _ _ _ _) => some cs
  | _ => none

def St.load (σ : St) (i o : Nat) : Option V := match σ.row i with
  | some cs => cs[o]?
  | none => none

def St.loadN (σ : St) (i o n : Nat) : Option (List V) := match σ.row i with
  | some cs => listSub cs o n
  | none => none

/-- May n cells from o on of this row be written? -/
def mayWrite (len lo hi : Nat) (ro : Bool) (o n : Nat) : Bool := !ro && Nat.ble (o + n) len && (Nat.ble hi o || Nat.ble (o + n) lo)

def V.scalar : V → Bool
  | .agg _ => false
  | .tuple _ => false
  | _ => true

def allScalar : List V → Bool
  | [] => true
  | v :: l => match v.scalar with
    | true => allScalar l
    | false => false

def St.storeN (σ : St) (i o : Nat) (vs : List V) : Option St := match σ.at i with
  | some (.row cs e lo hi ro) => match mayWrite cs.length lo hi ro o vs.length && allScalar vs with
    | true => some (σ.put i (some (.row (listPut cs o vs) e lo hi ro)))
    | false => none
  | _ => none

def sameKey : V → V → Option Bool
  | .int k a, .int k' b => match decide (k = k') with
    | true => some (decide (a = b))
    | false => none
  | .str a, .str b => some (eqB a b)
  | _, _ => none

def allInts : List V → Bool
  | [] => true
  | .int _ _ :: l => allInts l
  | _ => false

def eqInts : List V → List V → Bool
  | [], [] => true
  | .int k a :: l, .int k' b :: m => decide (k = k') && (decide (a = b) && eqInts l m)
  | _, _ => false

def sameRec (ps : PT) : V → V → Option Bool
  | .agg l, .agg m => match eqP ps l m with
    | some true => match eqInts l m with
      | true => some true
      | false => none
    | some false => some false
    | none => none
  | _, _ => none

def sameK (kt : KT) (k x : V) : Option Bool := match kt with
  | .recd ps => sameRec ps k x
  | _ => sameKey k x

def findKeyV (kt : KT) (k : V) : List (V × V) → Nat → Option (Option (Nat × V))
  | [], _ => some none
  | (x, v) :: l, i => match sameK kt k x with
    | some true => some (some (i, v))
    | some false => findKeyV kt k l (i + 1)
    | none => none

def St.entries (σ : St) : Option Nat → Option (List (V × V))
  | none => some []
  | some i => match σ.at i with
    | some (.mp es) => some es
    | _ => none

def isKey (kt : KT) (k : V) : Bool := match kt with
  | .int => match k with
    | .int _ _ => true
    | _ => false
  | .str => match k with
    | .str _ => true
    | _ => false
  | .recd ps => match k with
    | .agg l => allInts l && (match eqP ps l l with
      | some true => true
      | _ => false)
    | _ => false

def tabFind : List (Nat × Nat) → Nat → Option Nat
  | [], _ => none
  | (t, f) :: l, u => match Nat.beq t u with
    | true => some f
    | false => tabFind l u

/-- What a slice or a string has to append or copy: the cells of its first n elements. -/
def firstC (σ : St) (size n : Nat) : V → Option (List V)
  | .slice (some (i, o)) _ _ _ => σ.loadN i o (n * size)
  | .slice none _ _ _ => match Nat.beq n 0 with
    | true => some []
    | false => none
  | .str s => some ((s.take n).map fun b => .int .u8 b.toNat)
  | _ => none

def lenC : V → Option Nat
  | .slice _ n _ _ => some n
  | .str s => some s.length
  | _ => none

/-- A row that may not begin where its block does is told by these bounds. 'o': where it begins in the elder row. -/
def mvLo (o lo hi : Nat) : Nat := match Nat.beq o 0 with
  | true => lo
  | false => match Nat.beq hi 0 with
    | true => 1
    | false => lo

theorem mvLo_ne {o lo hi : Nat} (h : o ≠ 0) : ¬ (mvLo o lo hi = 0 ∧ hi = 0) := by
  rintro ⟨h1, rfl⟩
  have : Nat.beq o 0 = false := by rw [Bool.eq_false_iff]; intro e; exact h (Nat.eq_of_beq_eq_true e)
  simp [mvLo, this] at h1

theorem mvLo_zero {lo hi : Nat} : mvLo 0 lo hi = lo := rfl

theorem mvLo_le {o lo hi q : Nat} (h : lo ≤ q ∧ q < hi) : mvLo o lo hi ≤ q ∧ q < hi := by
  have : Nat.beq hi 0 = false := by rw [Bool.eq_false_iff]; intro e; have := Nat.eq_of_beq_eq_true e; omega
  simp only [mvLo, this]
  cases Nat.beq o 0 <;> exact h

def appendV (elem size bytes : Nat) (s x : V) (σ : St) : Option Out := match s, lenC x with
  | .slice a len cap opn, some n => match firstC σ size n x with
    | none => none
    | some new => match Nat.ble (len + n) cap with
      | true => match a with
        | none => some (.val (.slice none (len + n) cap opn) σ)
        | some (i, o) => match σ.storeN i (o + len * size) new with
          | some σ' => some (.val (.slice a (len + n) cap opn) σ')
          | none => none
      | false => match firstC σ size len s with
        | none => none
        | some old => match Nat.ble ((4 * (len + n) + 1000) * bytes) 140737488355328 && Nat.ble 1 bytes && Nat.ble 1 size && Nat.beq new.length (n * size) with
          | false => none
          | true => match opn with
            | false => some (.val (.slice (some (σ.next, 0)) (len + n) (len + n) true) (σ.new (.row (old ++ new) elem 0 0 false)))
            | true => match a with
              | none => none
              | some (i, o) => match σ.at i with
                | some (.row cs e lo hi ro) => match !ro && Nat.beq e elem && Nat.beq (o + cap * size) cs.length && Nat.ble hi (o + len * size) && allScalar new with
                  | true => some (.val (.slice (some (σ.next, 0)) (len + n) (len + n) true) ((σ.put i none).new (.row (old ++ new) elem (mvLo o (lo - o) (hi - o)) (hi - o) false)))
                  | false => none
                | _ => none
  | _, _ => none

def mm1 (isMax : Bool) : V → V → Option V
  | .int k a, .int _ b => match isMax with
    | true => some (.int k (if b > a then b else a))
    | false => some (.int k (if b < a then b else a))
  | _, _ => none

def mmL (isMax : Bool) : V → List V → Option V
  | a, [] => some a
  | a, x :: l => match mm1 isMax a x with
    | some b => mmL isMax b l
    | none => none

def minmax (isMax : Bool) : List V → Option V
  | [] => none
  | v :: l => mmL isMax v l

def negB (neg r : Bool) : Bool := match neg with
  | true => !r
  | false => r

def val? (σ : St) : Option V → Option Out
  | some v => some (.val v σ)
  | none => none

def bytesOf : List V → Option (List UInt8)
  | [] => some []
  | .int .u8 n :: l => match bytesOf l with
    | some s => some (UInt8.ofNat n.toNat :: s)
    | none => none
  | _ => none

/-- Bytes, each in its bounds. -/
def bytesIn : List V → Option (List UInt8)
  | [] => some []
  | v :: l => match v with
    | .int .u8 (.ofNat n) => match Nat.blt n 256 with
      | true => match bytesIn l with
        | some s => some (UInt8.ofNat n :: s)
        | none => none
      | false => none
    | _ => none

/-- Calls from this number on are rounds of loops over functions. -/
def yBase : Nat := 1000000000

def sem (h : H) (vs : List V) (σ : St) : Option Out := match h with
  | .mv => match vs with
    | [v] => some (.val v σ)
    | _ => none
  | .pick => match vs with
    | [.bool c, a, b] => some (.val (match c with | true => a | false => b) σ)
    | _ => none
  | .alloc e zs => match vs with
    | [] => some (.val (.ptr (some (σ.next, 0))) (σ.new (.row zs e 0 0 false)))
    | _ => none
  | .box e => match vs with
    | [v] => some (.val (.ptr (some (σ.next, 0))) (σ.new (.row v.cells e 0 0 false)))
    | _ => none
  | .build zs ps => match fillW zs ps vs with
    | some cs => some (.val (.agg cs) σ)
    | none => none
  | .bslice e n zs ps => match fillW zs ps vs with
    | some cs => some (.val (.slice (some (σ.next, 0)) n n false) (σ.new (.row cs e 0 0 false)))
    | none => none
  | .load1 => match vs with
    | [.ptr (some (i, o))] => val? σ (σ.load i o)
    | _ => none
  | .loadN n => match vs with
    | [.ptr (some (i, o))] => match σ.loadN i o n with
      | some cs => some (.val (.agg cs) σ)
      | none => none
    | _ => none
  | .store n => match vs with
    | [.ptr (some (i, o)), v] => match Nat.beq v.cells.length n with
      | true => match σ.storeN i o v.cells with
        | some σ' => some (.skip σ')
        | none => none
      | false => none
    | _ => none
  | .nilCheck => match vs with
    | [v] => match v with
      | .ptr none | .nilIface | .nilFunc => none
      | .func (.method _) _ _ => none
      | v => some (.val v σ)
    | _ => none
  | .bin op => match vs with
    | [a, b] => val? σ (binV op a b)
    | _ => none
  | .eq neg t => match vs with
    | [a, b] => match eqV t a b with
      | some r => some (.val (.bool (negB neg r)) σ)
      | none => none
    | _ => none
  | .un op => match vs with
    | [a] => val? σ (unV op a)
    | _ => none
  | .toInt k => match vs with
    | [.int _ n] => some (.val (.int k (k.wrap n)) σ)
    | _ => none
  | .strId => match vs with
    | [.str s] => some (.val (.str s) σ)
    | _ => none
  | .toBytes e => match vs with
    | [.str s] => some (.val (.slice (some (σ.next, 0)) s.length s.length true) (σ.new (.row (s.map fun b => .int .u8 b.toNat) e 0 0 false)))
    | _ => none
  | .mkIface t => match vs with
    | [v] => some (.val (.iface t v) σ)
    | _ => none
  | .mkFunc fn n => some (.val (.func fn (vs.take n) (vs.drop n)) σ)
  | .mkMap => match vs with
    | [] => some (.val (.map (some σ.next)) (σ.new (.mp [])))
    | _ => none
  | .mkSlice e size bytes zs => match vs with
    | [.int _ l, .int _ c] => match decide (0 ≤ l ∧ l ≤ c ∧ (bytes : Int) * c ≤ 140737488355328 ∧ c ≤ 140737488355328) && Nat.beq zs.length size && Nat.ble 1 size with
      | true => some (.val (.slice (some (σ.next, 0)) l.toNat c.toNat false) (σ.new (.row (repeatL zs c.toNat) e 0 0 false)))
      | false => none
    | _ => none
  | .sliceStr lo hi => match vs with
    | .str s :: vs => match bounds s.length s.length lo hi false vs with
      | some (l, h, _) => some (.val (.str ((s.take h).drop l)) σ)
      | none => none
    | _ => none
  | .sliceSl size lo hi mx => match vs with
    | .slice a len cap opn :: vs => match bounds len cap lo hi mx vs with
      | some (l, h, m) => val? σ (resl size a opn mx l h m)
      | none => none
    | _ => none
  | .sliceArr n size lo hi mx => match vs with
    | .ptr (some a) :: vs => match bounds n n lo hi mx vs with
      | some (l, h, m) => val? σ (resl size (some a) false mx l h m)
      | none => none
    | _ => none
  | .fieldAddr off => match vs with
    | [.ptr (some (i, o))] => some (.val (.ptr (some (i, o + off))) σ)
    | _ => none
  | .field1 off => match vs with
    | [.agg cs] => val? σ (partV false off 1 cs)
    | _ => none
  | .fieldN off n => match vs with
    | [.agg cs] => val? σ (partV true off n cs)
    | _ => none
  | .ixAddrArr n size => match vs with
    | [.ptr (some (i, o)), .int _ k] => match decide (0 ≤ k ∧ k < (n : Int)) with
      | true => some (.val (.ptr (some (i, o + k.toNat * size))) σ)
      | false => none
    | _ => none
  | .ixAddrSl size => match vs with
    | [.slice (some (i, o)) len _ _, .int _ k] => match decide (0 ≤ k ∧ k < (len : Int)) with
      | true => some (.val (.ptr (some (i, o + k.toNat * size))) σ)
      | false => none
    | _ => none
  | .ixArr1 n => match vs with
    | [.agg cs, .int _ k] => match decide (0 ≤ k ∧ k < (n : Int)) with
      | true => val? σ (partV false k.toNat 1 cs)
      | false => none
    | _ => none
  | .ixArrN n size => match vs with
    | [.agg cs, .int _ k] => match decide (0 ≤ k ∧ k < (n : Int)) with
      | true => val? σ (partV true (k.toNat * size) size cs)
      | false => none
    | _ => none
  | .ixStr => match vs with
    | [.str s, .int _ k] => match decide (0 ≤ k) with
      | true => match s[k.toNat]? with
        | some b => some (.val (.int .u8 b.toNat) σ)
        | none => none
      | false => none
    | _ => none
  | .lookup kt ok zero => match vs with
    | [.map r, k] => match isKey kt k with
      | false => none
      | true => match σ.entries r with
        | none => none
        | some es => match findKeyV kt k es 0 with
          | none => none
          | some (some (_, v)) => some (.val (match ok with | true => .tuple [v, .bool true] | false => v) σ)
          | some none => some (.val (match ok with | true => .tuple [zero, .bool false] | false => zero) σ)
    | _ => none
  | .mapUpd kt => match vs with
    | [.map (some i), k, v] => match isKey kt k with
      | false => none
      | true => match σ.at i with
        | some (.mp es) => match findKeyV kt k es 0 with
          | none => none
          | some (some (j, _)) => some (.skip (σ.put i (some (.mp (es.set j (k, v))))))
          | some none => some (.skip (σ.put i (some (.mp (es ++ [(k, v)])))))
        | _ => none
    | _ => none
  | .mapEntry kt zero => match vs with
    | [.map (some i), k] => match isKey kt k with
      | false => none
      | true => match σ.at i with
        | some (.mp es) => match findKeyV kt k es 0 with
          | none => none
          | some (some (j, v)) => some (.val (.tuple [v, .int .i64 (j : Nat)]) (σ.put i (some (.mp (es.set j (k, v))))))
          | some none => some (.val (.tuple [zero, .int .i64 (es.length : Nat)]) (σ.put i (some (.mp (es ++ [(k, zero)])))))
        | _ => none
    | _ => none
  | .entryStore => match vs with
    | [.map (some i), .int _ n, v] => match σ.at i with
      | some (.mp es) => match decide (0 ≤ n) with
        | false => none
        | true => match es[n.toNat]? with
          | some e => some (.skip (σ.put i (some (.mp (es.set n.toNat (e.1, v))))))
          | none => none
      | _ => none
    | _ => none
  | .assert t ok zero => match vs with
    | [v] => match v with
      | .iface u x => match Nat.beq u t with
        | true => some (.val (match ok with | true => .tuple [x, .bool true] | false => x) σ)
        | false => match ok with
          | true => some (.val (.tuple [zero, .bool false]) σ)
          | false => none
      | .nilIface => match ok with
        | true => some (.val (.tuple [zero, .bool false]) σ)
        | false => none
      | _ => none
    | _ => none
  | .extract i => match vs with
    | [.tuple vs] => val? σ (vs[i]?)
    | _ => none
  | .call => match vs with
    | f :: args => match f with
      | .func (.func n) first cap => match Nat.blt n yBase with
        | true => some (.enter n (first ++ args ++ cap) σ)
        | false => none
      | .yld k => match σ.at k with
        | some (.lp 0) => some (.round k args σ)
        | _ => none
      | _ => none
    | _ => none
  | .invoke tab => match vs with
    | .iface t v :: args => match tabFind tab t with
      | some f => match Nat.blt f yBase with
        | true => some (.enter f (v :: args) σ)
        | false => none
      | none => none
    | _ => none
  | .lenStr => match vs with
    | [.str s] => some (.val (.int .i64 s.length) σ)
    | _ => none
  | .lenSl => match vs with
    | [.slice _ n _ _] => some (.val (.int .i64 n) σ)
    | _ => none
  | .lenArr n => match vs with
    | [_] => some (.val (.int .i64 n) σ)
    | _ => none
  | .lenMap => match vs with
    | [.map r] => match r with
      | none => some (.val (.int .i64 0) σ)
      | some i => match σ.at i with
        | some (.mp es) => some (.val (.int .i64 es.length) σ)
        | _ => none
    | _ => none
  | .capSl => match vs with
    | [.slice _ _ c opn] => match opn with
      | false => some (.val (.int .i64 c) σ)
      | true => none
    | _ => none
  | .append e size bytes => match vs with
    | [s, x] => appendV e size bytes s x σ
    | _ => none
  | .copy size => match vs with
    | [.slice a n _ _, x] => match lenC x with
      | none => none
      | some k => match firstC σ size (Nat.min k n) x with
        | none => none
        | some cs => match a with
          | none => some (.val (.int .i64 (Nat.min k n : Nat)) σ)
          | some (i, o) => match σ.storeN i o cs with
            | some σ' => some (.val (.int .i64 (Nat.min k n : Nat)) σ')
            | none => none
    | _ => none
  | .clearSl zs => match vs with
    | [.slice a n _ _] => match a, n with
      | none, _ => some (.val undefV σ)
      | some _, 0 => some (.val undefV σ)
      | some (i, o), n => match σ.storeN i o (repeatL zs n) with
        | some σ' => some (.val undefV σ')
        | none => none
    | _ => none
  | .ofBytes => match vs with
    | [.slice a n _ _] => match a with
      | none => some (.val (.str []) σ)
      | some (i, o) => match σ.loadN i o n with
        | none => none
        | some cs => match bytesOf cs with
          | some s => some (.val (.str s) σ)
          | none => none
    | _ => none
  | .toUns => match vs with
    | [.ptr a] => match a with
      | none => some (.val (.ptr none) σ)
      | some (i, o) => match σ.row i with
        | some cs => match Nat.blt o cs.length with
          | true => some (.val (.ptr (some (i, o))) σ)
          | false => none
        | none => none
    | _ => none
  | .ofUns u n => match vs with
    | [.ptr a] => match a with
      | none => some (.val (.ptr none) σ)
      | some (i, o) => match σ.at i with
        | some (.row cs e lo hi ro) => match Nat.beq o 0 && Nat.beq e u && Nat.ble n cs.length && Nat.beq lo 0 && Nat.beq hi 0 && !ro with
          | true => some (.val (.ptr (some (i, o))) σ)
          | false => none
        | _ => none
    | _ => none
  | .sliceData => match vs with
    | [.slice a _ c _] => match a with
      | none => some (.val (.ptr none) σ)
      | some (i, o) => match Nat.beq c 0 with
        | true => none
        | false => some (.val (.ptr (some (i, o))) σ)
    | _ => none
  | .unsStr e => match vs with
    | [.ptr a, .int .i64 n] => match decide (n = 0) with
      | true => some (.val (.str []) σ)
      | false => match a, decide (0 < n ∧ n ≤ 140737488355328) with
        | some (i, o), true => match σ.at i with
          | some (.row cs e' lo hi ro) => match !ro && Nat.beq e' e && Nat.beq o 0 && Nat.beq lo 0 && Nat.beq hi 0, listSub cs o n.toNat with
            | true, some l => match bytesIn l with
              | some s => some (.val (.str s) (σ.put i (some (.row cs e' lo hi true))))
              | none => none
            | _, _ => none
          | _ => none
        | _, _ => none
    | _ => none
  | .min => val? σ (minmax false vs)
  | .max => val? σ (minmax true vs)
  | .defer => match vs with
    | f :: args => match f with
      | .func (.func n) first cap => some (.dfr (.func n) cap (first ++ args) σ)
      | _ => none
    | _ => none
  | .panic => match vs with
    | [.iface t v] => some (.panic (.iface t v) σ)
    | _ => none
  | .recover => none

structure Ins where
  dst : Option Nat
  h : H
  args : List A
  guard : Option (Nat × Bool)

/-- An operation of a region that draws: how many acts are behind it at least and at most, whatever order is drawn. -/
structure DO where
  o : Ins
  lo : Nat
  hi : Nat

inductive C where
  | skip
  | reg (ops : List Ins) (keep : Option (List Nat))
  | dreg (ops : List DO) (keep : Option (List Nat))
  | seq (x y : C)
  | cond (a : A) (x y : C)
  | block (id : Nat) (c : C)
  | loop (c : C)
  | rangeF (its : List Nat) (g : A) (ps : List Nat) (x y : C)
  | exit (id : Nat)
  | ret
  | bad

inductive RV where
  | tmp (t : Nat)
  | cell1 (t : Nat)
  | cellN (t n : Nat)

structure F where
  ntmps : Nat
  results : List RV
  body : C

abbrev D := List (Fn × List V × List V)
abbrev Chain := List (V × Bool)

inductive X where
  | nrm
  | exit (id : Nat)
  | ret
  | pan (ch : Chain)

inductive End where
  | ret (v : V)
  | pan (ch : Chain)

structure Fin where
  x : X
  e : E
  d : D
  s : St

abbrev Call := Nat → List V → St → Option (End × St)

def wanted (e : E) : Option (Nat × Bool) → Option Bool
  | none => some true
  | some (t, b) => match E.get e t with
    | some (.bool c) => some (c == b)
    | some _ => some false
    | none => none

inductive SR where
  | ok (v : V) (s : St)
  | pan (ch : Chain) (s : St)
  | dfr (fn : Fn) (cap args : List V) (s : St)

/-- An operation that is wanted. -/
def step (call : Call) (o : Ins) (e : E) (σ : St) : Option SR := match evs e o.args with
  | none => none
  | some vs => match sem o.h vs σ with
    | none => none
    | some (.val v σ') => some (.ok v σ')
    | some (.skip σ') => some (.ok undefV σ')
    | some (.panic v σ') => some (.pan [(v, false)] σ')
    | some (.dfr fn cap args σ') => some (.dfr fn cap args σ')
    | some (.enter f args σ') => match call f args σ' with
      | none => none
      | some (.ret v, σ'') => some (.ok v σ'')
      | some (.pan ch, σ'') => some (.pan ch σ'')
    | some (.round k args σ') => match call (yBase + k) args σ' with
      | none => none
      | some (.ret v, σ'') => some (.ok v σ'')
      | some (.pan ch, σ'') => some (.pan ch σ'')

def ops (call : Call) : List Ins → E → D → St → Option Fin
  | [], e, d, σ => some ⟨.nrm, e, d, σ⟩
  | o :: l, e, d, σ => match wanted e o.guard with
    | none => none
    | some false => ops call l (e.put o.dst undefV) d σ
    | some true => match step call o e σ with
      | none => none
      | some (.ok v σ') => ops call l (e.put o.dst v) d σ'
      | some (.pan ch σ') => some ⟨.pan ch, e, d, σ'⟩
      | some (.dfr fn cap args σ') => ops call l (e.put o.dst undefV) ((fn, cap, args) :: d) σ'

/-! ### A region that draws its order -/

mutual
def beqV : V → V → Bool
  | .bool a, b => match b with
    | .bool b => a == b
    | _ => false
  | .int k a, b => match b with
    | .int k' b => decide (k = k') && decide (a = b)
    | _ => false
  | .str a, b => match b with
    | .str b => eqB a b
    | _ => false
  | .ptr a, b => match b with
    | .ptr b => decide (a = b)
    | _ => false
  | .slice a n c op, b => match b with
    | .slice a' n' c' op' => decide (a = a') && Nat.beq n n' && Nat.beq c c' && op == op'
    | _ => false
  | .map a, b => match b with
    | .map b => decide (a = b)
    | _ => false
  | .func fn f c, b => match b with
    | .func fn' f' c' => decide (fn = fn') && beqVs f f' && beqVs c c'
    | _ => false
  | .nilFunc, b => match b with
    | .nilFunc => true
    | _ => false
  | .iface t v, b => match b with
    | .iface t' v' => Nat.beq t t' && beqV v v'
    | _ => false
  | .nilIface, b => match b with
    | .nilIface => true
    | _ => false
  | .agg a, b => match b with
    | .agg b => beqVs a b
    | _ => false
  | .tuple a, b => match b with
    | .tuple b => beqVs a b
    | _ => false
  | .yld k, b => match b with
    | .yld k' => Nat.beq k k'
    | _ => false
def beqVs : List V → List V → Bool
  | [], b => match b with
    | [] => true
    | _ => false
  | v :: l, b => match b with
    | u :: m => beqV v u && beqVs l m
    | _ => false
end

def look1 (o : Ins) (e : E) (σ : St) : Option V := match wanted e o.guard with
  | none => none
  | some false => some undefV
  | some true => match evs e o.args with
    | none => none
    | some vs => match sem o.h vs σ with
      | some (.val v _) => some v
      | _ => none

/-- The blocks that a region makes on its own are made ahead. -/
def prealloc : List DO → St → St
  | [], σ => σ
  | x :: l, σ => match x.o.h with
    | .alloc e zs => prealloc l (σ.new (.row zs e 0 0 false))
    | _ => prealloc l σ

structure TR where
  vs : List V
  ss : List St
  pan : Option (Chain × St)

/-- What may come up ahead of a panic in another order. -/
def dlate (k : Nat) (σ : St) : List DO → Nat → E → Option (List V)
  | [], _, _ => some []
  | x :: l, al, e => match x.o.h.cls with
    | .look => match Nat.ble x.lo k with
      | true => match look1 x.o e σ with
        | none => none
        | some v => match dlate k σ l al (e.put x.o.dst v) with
          | some vs => some (v :: vs)
          | none => none
      | false => match dlate k σ l al e with
        | some vs => some (undefV :: vs)
        | none => none
    | .alloc => match x.o.guard with
      | some _ => none
      | none => match dlate k σ l (al + 1) (e.put x.o.dst (.ptr (some (al, 0)))) with
        | some vs => some (.ptr (some (al, 0)) :: vs)
        | none => none
    | .act => match dlate k σ l al e with
      | some vs => some (undefV :: vs)
      | none => none

/-- The region in the order of its text: each operation's value, the states between the acts (the last one first), and a panic. -/
def dtr (call : Call) : List DO → Nat → Nat → E → St → List St → Option TR
  | [], _, _, _, σ, ss => some ⟨[], σ :: ss, none⟩
  | x :: l, k, al, e, σ, ss => match x.o.h.cls with
    | .look => match look1 x.o e σ with
      | none => none
      | some v => match dtr call l k al (e.put x.o.dst v) σ ss with
        | some t => some ⟨v :: t.vs, t.ss, t.pan⟩
        | none => none
    | .alloc => match x.o.guard with
      | some _ => none
      | none => match dtr call l k (al + 1) (e.put x.o.dst (.ptr (some (al, 0)))) σ ss with
        | some t => some ⟨.ptr (some (al, 0)) :: t.vs, t.ss, t.pan⟩
        | none => none
    | .act => match wanted e x.o.guard with
      | none => none
      | some false => match dtr call l (k + 1) al (e.put x.o.dst undefV) σ (σ :: ss) with
        | some t => some ⟨undefV :: t.vs, t.ss, t.pan⟩
        | none => none
      | some true => match step call x.o e σ with
        | some (.ok v τ) => match dtr call l (k + 1) al (e.put x.o.dst v) τ (σ :: ss) with
          | some t => some ⟨v :: t.vs, t.ss, t.pan⟩
          | none => none
        | some (.pan ch τ) => match dlate k σ l al e with
          | some vs => some ⟨undefV :: vs, σ :: ss, some (ch, τ)⟩
          | none => none
        | _ => none

/-- A look tells the same in all these states. -/
def chkAll (o : Ins) (e : E) (v : V) : List St → Bool
  | [] => true
  | σ :: l => match look1 o e σ with
    | some u => beqV v u && chkAll o e v l
    | none => false

/-- Each look tells the same wherever it may come up. 'q': how many acts were done; 'k': of those ahead. -/
def dchk (st : List St) (q : Nat) : List DO → List V → Nat → E → Bool
  | [], _, _, _ => true
  | x :: l, v :: vs, k, e => match x.o.h.cls with
    | .look => match Nat.ble x.lo q with
      | true => chkAll x.o e v ((st.drop x.lo).take (x.hi + 1 - x.lo)) && dchk st q l vs k (e.put x.o.dst v)
      | false => dchk st q l vs k e
    | .alloc => dchk st q l vs k (e.put x.o.dst v)
    | .act => match Nat.blt k q with
      | true => dchk st q l vs (k + 1) (e.put x.o.dst v)
      | false => dchk st q l vs (k + 1) e
  | _ :: _, [], _, _ => false

def envAll : E → List DO → List V → E
  | e, [], _ => e
  | e, x :: l, v :: vs => envAll (e.put x.o.dst v) l vs
  | e, _ :: _, [] => e

def isDst (L : List DO) (t : Nat) : Bool := L.any fun x => match x.o.dst with
  | some d => Nat.beq d t
  | none => false

def dropE (L : List DO) : E → E
  | [] => []
  | (t, v) :: e => match isDst L t with
    | true => dropE L e
    | false => (t, v) :: dropE L e

def dreg (call : Call) (L : List DO) (e : E) (d : D) (σ : St) : Option Fin := match dtr call L 0 σ.next e (prealloc L σ) [] with
  | none => none
  | some t => match dchk t.ss.reverse (t.ss.length - 1) L t.vs 0 e with
    | false => none
    | true => match t.pan with
      | none => match t.ss with
        | τ :: _ => some ⟨.nrm, envAll e L t.vs, d, τ⟩
        | [] => none
      | some (ch, τ) => some ⟨.pan ch, dropE L e, d, τ⟩

def keepE (e : E) : List Nat → E
  | [] => []
  | t :: l => match E.get e t with
    | some v => (t, v) :: keepE e l
    | none => keepE e l

def keep (e : E) : Option (List Nat) → E
  | none => e
  | some ts => keepE e ts

def loopN (f : E → D → St → Option Fin) : Nat → E → D → St → Option Fin
  | 0, _, _, _ => none
  | n + 1, e, d, σ => match f e d σ with
    | some ⟨.nrm, e', d', σ'⟩ => loopN f n e' d' σ'
    | r => r

/-- No calls of yield. -/
def noY : Call := fun _ _ _ => none

/-- The rounds of one loop. -/
def yOne (k : Nat) (r : List V → St → Option (End × St)) : Call := fun f args σ => match Nat.beq f (yBase + k) with
  | true => r args σ
  | false => none

def putAll : E → List Nat → List V → Option E
  | e, [], vs => match vs with
    | [] => some e
    | _ => none
  | e, p :: ps, vs => match vs with
    | v :: vs => putAll ((p, v) :: e) ps vs
    | [] => none

/-- How a round was left, as its record bears it: 0: off its end. -/
def xCode : X → Option Nat
  | .nrm => some 0
  | .ret => some 1
  | .exit id => some (id + 2)
  | .pan _ => none

def codeX : Nat → X
  | 0 => .nrm
  | 1 => .ret
  | n + 2 => .exit n

/-- The record is ready. -/
def readyV (σ : St) (k : Nat) : Bool := match σ.at k with
  | some (.lp 0) => true
  | _ => false

def roundV (ra rb : E → D → St → Option Fin) (e : E) (ps : List Nat) (k : Nat) (args : List V) (σ : St) : Option (End × St) := match putAll e ps args, readyV σ k with
  | some e', true => match ra e' [] σ with
    | some ⟨.nrm, e1, [], σ1⟩ => match readyV σ1 k with
      | true => match rb e1 [] σ1 with
        | some ⟨x, _, [], σ2⟩ => match xCode x, readyV σ2 k with
          | some 0, true => some (.ret (.bool true), σ2)
          | some (c + 1), true => some (.ret (.bool false), σ2.put k (some (.lp (c + 1))))
          | _, _ => none
        | _ => none
      | false => none
    | _ => none
  | _, _ => none

def inL (t : Nat) : List Nat → Bool
  | [] => false
  | u :: l => match Nat.beq t u with
    | true => true
    | false => inL t l

def rangeV (cy : Call → Call) (ra rb : E → D → St → Option Fin) (its : List Nat) (g : A) (ps : List Nat) (e : E) (d : D) (σ : St) : Option Fin := match ev e g with
  | some (.func (.func gf) [] cap) => match inL gf its with
    | false => none
    | true => match cy (yOne (σ.next + 1) (roundV ra rb e ps (σ.next + 1))) gf (.yld (σ.next + 1) :: cap) ((σ.new .df).new (.lp 0)) with
      | some (.ret _, τ) => match τ.at (σ.next + 1) with
        | some (.lp c) => some ⟨codeX c, e, (.yield σ.next, [], []) :: d, τ.put (σ.next + 1) none⟩
        | _ => none
      | _ => none
  | _ => none

def run (cy : Call → Call) (y : Call) (n : Nat) : C → E → D → St → Option Fin
  | .skip, e, d, σ => some ⟨.nrm, e, d, σ⟩
  | .reg l k, e, d, σ => match ops (cy y) l e d σ with
    | some ⟨.nrm, e', d', σ'⟩ => some ⟨.nrm, keep e' k, d', σ'⟩
    | r => r
  | .dreg l k, e, d, σ => match dreg (cy y) l e d σ with
    | some ⟨.nrm, e', d', σ'⟩ => some ⟨.nrm, keep e' k, d', σ'⟩
    | r => r
  | .seq a b, e, d, σ => match run cy y n a e d σ with
    | some ⟨.nrm, e', d', σ'⟩ => run cy y n b e' d' σ'
    | r => r
  | .cond v a b, e, d, σ => match ev e v with
    | some (.bool true) => run cy y n a e d σ
    | some (.bool false) => run cy y n b e d σ
    | _ => none
  | .block id c, e, d, σ => match run cy y n c e d σ with
    | some ⟨.exit id', e', d', σ'⟩ => match Nat.beq id' id with
      | true => some ⟨.nrm, e', d', σ'⟩
      | false => some ⟨.exit id', e', d', σ'⟩
    | r => r
  | .loop c, e, d, σ => loopN (run cy y n c) n e d σ
  | .rangeF its g ps a b, e, d, σ => rangeV cy (run cy noY n a) (run cy noY n b) its g ps e d σ
  | .exit id, e, d, σ => some ⟨.exit id, e, d, σ⟩
  | .ret, e, d, σ => some ⟨.ret, e, d, σ⟩
  | .bad, _, _, _ => none

/-! ### Functions -/

def envOf : Nat → List V → E
  | _, [] => []
  | i, v :: l => (i, v) :: envOf (i + 1) l

def resV (e : E) (σ : St) : List RV → Option (List V)
  | [] => some []
  | r :: l => match (match r with
      | .tmp t => E.get e t
      | .cell1 t => match E.get e t with
        | some (.ptr (some (i, o))) => σ.load i o
        | _ => none
      | .cellN t n => match E.get e t with
        | some (.ptr (some (i, o))) => match σ.loadN i o n with
          | some cs => some (.agg cs)
          | none => none
        | _ => none) with
    | none => none
    | some v => match resV e σ l with
      | some vs => some (v :: vs)
      | none => none

def retV : List V → V
  | [v] => v
  | vs => .tuple vs

/-- What a deferred function's code leaves: the caller's panic, too ('none': it returns). -/
structure FinS where
  f : Fin
  u : Option Chain

/-- No rounds. -/
def noR (call : Call) : Call := fun f args σ => match Nat.blt f yBase with
  | true => call f args σ
  | false => none

def opsS (call : Call) : List Ins → E → D → Option Chain → St → Option FinS
  | [], e, d, u, σ => some ⟨⟨.nrm, e, d, σ⟩, u⟩
  | o :: l, e, d, u, σ => match wanted e o.guard with
    | none => none
    | some false => opsS call l (e.put o.dst undefV) d u σ
    | some true => match o.h with
      | .recover => match u with
        | some ((v, false) :: old) => opsS call l (e.put o.dst v) d (some ((v, true) :: old)) σ
        | _ => opsS call l (e.put o.dst .nilIface) d u σ
      | _ => match step (noR call) o e σ with
        | none => none
        | some (.ok v σ') => opsS call l (e.put o.dst v) d u σ'
        | some (.pan ch σ') => some ⟨⟨.pan ch, e, d, σ'⟩, u⟩
        | some (.dfr fn cap args σ') => opsS call l (e.put o.dst undefV) ((fn, cap, args) :: d) u σ'

def C.noRec : C → Bool
  | .reg l _ => l.all fun o => match o.h with
    | .recover => false
    | _ => true
  | .seq x y => x.noRec && y.noRec
  | .cond _ x y => x.noRec && y.noRec
  | .block _ c => c.noRec
  | .loop c => c.noRec
  | .rangeF _ _ _ x y => x.noRec && y.noRec
  | _ => true

def noDfrI (o : Ins) : Bool := match o.h with
  | .defer => false
  | _ => true

/-- No deferred call. -/
def C.noDfr : C → Bool
  | .reg l _ => l.all noDfrI
  | .seq x y => x.noDfr && y.noDfr
  | .cond _ x y => x.noDfr && y.noDfr
  | .block _ c => c.noDfr
  | .loop c => c.noDfr
  | .rangeF .. => false
  | _ => true

def runS (cy : Call → Call) (y : Call) (n : Nat) : C → E → D → Option Chain → St → Option FinS
  | .seq a b, e, d, u, σ => match runS cy y n a e d u σ with
    | some ⟨⟨.nrm, e', d', σ'⟩, u'⟩ => runS cy y n b e' d' u' σ'
    | r => r
  | .cond v a b, e, d, u, σ => match ev e v with
    | some (.bool true) => runS cy y n a e d u σ
    | some (.bool false) => runS cy y n b e d u σ
    | _ => none
  | .reg l k, e, d, u, σ => match opsS (cy y) l e d u σ with
    | some ⟨⟨.nrm, e', d', σ'⟩, u'⟩ => some ⟨⟨.nrm, keep e' k, d', σ'⟩, u'⟩
    | r => r
  | c, e, d, u, σ => match run cy y n c e d σ with
    | some f => some ⟨f, u⟩
    | none => none

def settleV : Option Chain → Option Chain
  | some ((_, true) :: _) => none
  | u => u

def raisedV (u : Option Chain) (ch : Chain) : Chain := match u with
  | some old => ch ++ old
  | none => ch

/-- The deferred calls, one behind the other. -/
def leave (K : Nat → Option F) (cy : Call → Call) (y : Call) (n : Nat) (rs : List RV) (e : E) : D → Option Chain → St → Option (End × St)
  | [], none, σ => match resV e σ rs with
    | some vs => some (.ret (retV vs), σ)
    | none => none
  | [], some ch, σ => some (.pan ch, σ)
  | (fn, cap, args) :: d, u, σ => match fn with
    | .func f => match K f with
      | none => none
      | some F => match runS cy y n F.body (envOf 0 (args ++ cap)) [] u σ with
        | none => none
        | some ⟨⟨x, e', d', σ'⟩, u'⟩ => match d' with
          | [] => match x with
            | .nrm | .ret => match resV e' σ' F.results with
              | some _ => leave K cy y n rs e d (settleV u') σ'
              | none => none
            | .pan ch => leave K cy y n rs e d (some (raisedV u' ch)) σ'
            | .exit _ => none
          | _ => none
    | .yield i => match σ.at i with
      | some .df => leave K cy y n rs e d u (σ.put i none)
      | _ => none
    | _ => none

/-- Without a body: the library's, or a round. -/
def primY (prim y : Call) : Call := fun f args σ => match Nat.blt f yBase with
  | true => prim f args σ
  | false => y f args σ

def dfn (K : Nat → Option F) (prim : Call) : Nat → Call → Call
  | 0 => fun _ _ _ _ => none
  | n + 1 => fun y f args σ => match K f with
    | none => primY prim y f args σ
    | some F => match run (dfn K prim n) y n F.body (envOf 0 args) [] σ with
      | none => none
      | some ⟨x, e, d, τ⟩ => match x with
        | .nrm | .ret => leave K (dfn K prim n) y n F.results e d none τ
        | .pan ch => leave K (dfn K prim n) y n F.results e d (some ch) τ
        | .exit _ => none

end Go.Den
end

section
/- The heap's laws: a new block, a store, a load, under the relation of the abstract heap to the model's. -/
namespace Go.Den

variable [Gh] {P : Program}

/-- A later relation, behind some steps: what lay outside still does. -/
structure Ext (ι κ : Inj) (σ τ : St) : Prop where
  le : ι.le κ
  next : σ.next ≤ τ.next
  out : ∀ i, i < σ.next → ι i = none → κ i = none ∧ τ.at i = σ.at i

theorem Ext.refl (ι : Inj) (σ : St) : Ext ι ι σ σ := ⟨Inj.le_refl ι, Nat.le_refl _, fun _ _ h => ⟨h, rfl⟩⟩

theorem Ext.trans {ι κ μ : Inj} {σ τ υ : St} (h : Ext ι κ σ τ) (h' : Ext κ μ τ υ) : Ext ι μ σ υ :=
  ⟨Inj.le_trans h.le h'.le, Nat.le_trans h.next h'.next, fun i hi hn =>
    let ⟨a, b⟩ := h.out i hi hn
    let ⟨c, d⟩ := h'.out i (Nat.lt_of_lt_of_le hi h.next) a
    ⟨c, d.trans b⟩⟩

def Inj.add (ι : Inj) (n : Nat) (l : Loc) : Inj := fun i => if i = n then some l else ι i

theorem Inj.le_add {ι : Inj} {n : Nat} {l : Loc} (h : ι n = none) : ι.le (ι.add n l) := by
  intro i m hi
  unfold Inj.add
  by_cases e : i = n
  · subst e; rw [h] at hi; cases hi
  · simp [e, hi]

theorem Inj.add_self {ι : Inj} {n : Nat} {l : Loc} : ι.add n l n = some l := by simp [Inj.add]
theorem Inj.add_ne {ι : Inj} {n i : Nat} {l : Loc} (h : i ≠ n) : ι.add n l i = ι i := by simp [Inj.add, h]

theorem Rep.fresh {ι : Inj} {σ : St} {w : World} (h : Rep P ι σ w) : ι σ.next = none := by
  cases e : ι σ.next with
  | none => rfl
  | some l => exact absurd (h.low e) (Nat.lt_irrefl _)

theorem Rep.same {ι : Inj} {σ : St} {w w' : World} (h : Rep P ι σ w) (hh : w'.heap = w.heap) (hs : Sm w w') : Rep P ι σ w' :=
  ⟨h.low, fun hi ho => by rw [hh]; exact h.obj hi ho, Gh.turn h.kept (fun _ _ _ => by rw [hh]) hs (fun _ _ => rfl), h.own, h.fixd, h.locd, h.org, h.inj, h.glob⟩

theorem keep_push {σ τ : St} {w w' : World} {o : Obj} (h : Gh.keep σ w) (hh : w'.heap = w.heap.push o) (hs : Sm w w') (hf : ∀ i, Gh.fix i → τ.at i = σ.at i) : Gh.keep τ w' :=
  Gh.turn h (fun k hk _ => by rw [hh, Array.getElem?_push_lt hk, ← Array.getElem?_eq_getElem]) hs hf

theorem keep_write {σ τ : St} {w w' : World} {k : Nat} (h : Gh.keep σ w) (hk : Gh.pub k) (hh : ∀ j, j ≠ k → w'.heap[j]? = w.heap[j]?) (hs : Sm w w') (hf : ∀ i, Gh.fix i → τ.at i = σ.at i) : Gh.keep τ w' :=
  Gh.turn h (fun j _ hp => hh j (fun e => hp (e ▸ hk))) hs hf

theorem keep_same {σ τ : St} {w : World} (h : Gh.keep σ w) (hf : ∀ i, Gh.fix i → τ.at i = σ.at i) : Gh.keep τ w :=
  Gh.turn h (fun _ _ _ => rfl) ⟨rfl, rfl⟩ hf

theorem Rep.fix_new {ι : Inj} {σ : St} {w : World} (h : Rep P ι σ w) (b : Blk) : ∀ i, Gh.fix i → (σ.new b).at i = σ.at i := fun i hi => by
  have := (h.fixd hi).1
  rw [St.at_new, if_neg (by omega)]

theorem Rep.fix_put {ι : Inj} {σ : St} {w : World} (h : Rep P ι σ w) {i : Nat} {b : Blk} (hb : σ.at i = some b) (hl : b.isLp = false) (o : Option Blk) : ∀ j, Gh.fix j → (σ.put i o).at j = σ.at j := fun j hj => by
  obtain ⟨_, c, h1, h2⟩ := h.fixd hj
  have : j ≠ i := fun e => by subst e; rw [hb] at h1; cases h1; rw [hl] at h2; cases h2
  rw [St.at_put, if_neg this]

theorem Rep.locd_le {ι κ : Inj} {σ : St} {w : World} (h : Rep P ι σ w) (hl : ι.le κ) : ∀ {i l}, Gh.loc i l → κ i = some l := fun {i l} hi => hl i l (h.locd hi)

theorem Rep.fixd_of {ι : Inj} {σ τ : St} {w : World} (h : Rep P ι σ w) (hn : σ.next ≤ τ.next) (hf : ∀ i, Gh.fix i → τ.at i = σ.at i) : ∀ {i}, Gh.fix i → i < τ.next ∧ ∃ o, τ.at i = some o ∧ o.isLp = true := fun {i} hi => by
  obtain ⟨h1, o, h2, h3⟩ := h.fixd hi
  exact ⟨Nat.lt_of_lt_of_le h1 hn, o, by rw [hf i hi]; exact h2, h3⟩

/-- A new block. -/
theorem Rep.alloc {ι : Inj} {σ : St} {w w' : World} (h : Rep P ι σ w) (o : Obj) (b : Blk) (sp : Nat) (hh : w'.heap = w.heap.push o) (hs : Sm w w')
    (hb : Holds P (ι.add σ.next ⟨w.heap.size, 0, sp⟩) ⟨w.heap.size, 0, sp⟩ (w.heap.push o) b) :
    Rep P (ι.add σ.next ⟨w.heap.size, 0, sp⟩) (σ.new b) w' := by
  have hf := h.fresh
  have hkp := keep_push (τ := σ.new b) h.kept hh hs (h.fix_new b)
  have hfx := fun {i} hi => h.fixd_of (i := i) (Nat.le_succ _) (h.fix_new b) hi
  have hown : ∀ {i l o'}, ι.add σ.next ⟨w.heap.size, 0, sp⟩ i = some l → (σ.new b).at i = some o' → o'.rw = true → Gh.pub l.b := by
    intro i l o' hi ho hr
    by_cases e : i = σ.next
    · subst e; rw [Inj.add_self] at hi; cases hi; exact Gh.fresh h.kept (Nat.le_refl _)
    · rw [Inj.add_ne e] at hi; rw [St.at_new, if_neg e] at ho; exact h.own hi ho hr
  have horg : ∀ {i l cs e}, ι.add σ.next ⟨w.heap.size, 0, sp⟩ i = some l → (σ.new b).at i = some (.row cs e 0 0 false) → l.off = 0 := by
    intro i l cs e' hi ho
    by_cases e : i = σ.next
    · subst e; rw [Inj.add_self] at hi; cases hi; rfl
    · rw [Inj.add_ne e] at hi; rw [St.at_new, if_neg e] at ho; exact h.org hi ho
  refine ⟨?_, ?_, hkp, hown, hfx, fun {_ _} hi => h.locd_le (Inj.le_add hf) hi, horg, ?_, ?_⟩
  · intro i l hi
    by_cases e : i = σ.next
    · subst e; exact Nat.lt_succ_self _
    · rw [Inj.add_ne e] at hi; exact Nat.lt_succ_of_lt (h.low hi)
  · intro i l b' hi hb'
    by_cases e : i = σ.next
    · subst e
      rw [Inj.add_self] at hi; cases hi
      rw [St.at_new, if_pos rfl] at hb'; cases hb'
      rw [hh]
      exact hb
    · rw [Inj.add_ne e] at hi
      rw [St.at_new, if_neg e] at hb'
      have hh' := h.obj hi hb'
      have hlt := hh'.lt
      rw [hh]
      exact (hh'.mono (Inj.le_add hf)).heap (by rw [Array.getElem?_push_lt hlt, Array.getElem?_eq_getElem hlt])
  · intro i j l m oi oj hi hj hoi hoj hne hrw
    by_cases e : i = σ.next
    · subst e
      rw [Inj.add_self] at hi; cases hi
      have e' : j ≠ σ.next := fun e' => hne e'.symm
      rw [Inj.add_ne e'] at hj
      rw [St.at_new, if_neg e'] at hoj
      have := (h.obj hj hoj).lt
      exact fun e'' => by rw [← e''] at this; exact absurd this (Nat.lt_irrefl _)
    · rw [Inj.add_ne e] at hi
      rw [St.at_new, if_neg e] at hoi
      by_cases e' : j = σ.next
      · subst e'
        rw [Inj.add_self] at hj; cases hj
        have := (h.obj hi hoi).lt
        exact fun e'' => by rw [e''] at this; exact absurd this (Nat.lt_irrefl _)
      · rw [Inj.add_ne e'] at hj
        rw [St.at_new, if_neg e'] at hoj
        exact h.inj hi hj hoi hoj hne hrw
  · intro g hg
    have := h.glob g hg
    have hne : g ≠ σ.next := by intro e; rw [e, hf] at this; cases this
    rw [Inj.add_ne hne]; exact this

theorem Ext.alloc {ι : Inj} {σ : St} {w : World} (h : Rep P ι σ w) (b : Blk) (l : Loc) : Ext ι (ι.add σ.next l) σ (σ.new b) :=
  ⟨Inj.le_add h.fresh, Nat.le_succ _, fun i hi hn => by
    have : i ≠ σ.next := Nat.ne_of_lt hi
    exact ⟨by rw [Inj.add_ne this]; exact hn, by rw [St.at_new, if_neg this]⟩⟩

/-- A block that is written. -/
theorem Rep.write {ι : Inj} {σ : St} {w w' : World} (h : Rep P ι σ w) {i : Nat} {l : Loc} {b b' : Blk} (hi : ι i = some l) (hb : σ.at i = some b)
    (hrw : b.rw = true) (hs : Sm w w') (hsame : ∀ k, k ≠ l.b → w'.heap[k]? = w.heap[k]?) (hb' : Holds P ι l w'.heap b') (hog : ∀ {cs e}, b' = .row cs e 0 0 false → l.off = 0) : Rep P ι (σ.put i (some b')) w' := by
  have hown : ∀ {j m o'}, ι j = some m → (σ.put i (some b')).at j = some o' → o'.rw = true → Gh.pub m.b := by
    intro j m o' hj ho hr
    by_cases e : j = i
    · subst e; rw [hi] at hj; cases hj; exact h.own hi hb hrw
    · rw [St.at_put, if_neg e] at ho; exact h.own hj ho hr
  have horg : ∀ {j m cs e}, ι j = some m → (σ.put i (some b')).at j = some (.row cs e 0 0 false) → m.off = 0 := by
    intro j m cs e' hj ho
    by_cases e : j = i
    · subst e; rw [hi] at hj; cases hj; rw [St.at_put, if_pos rfl] at ho; exact hog (Option.some.inj ho)
    · rw [St.at_put, if_neg e] at ho; exact h.org hj ho
  have hnl : b.isLp = false := by cases b <;> simp_all [Blk.rw, Blk.isLp]
  have hf := h.fix_put hb hnl (some b')
  refine ⟨?_, ?_, keep_write h.kept (h.own hi hb hrw) hsame hs hf, hown, fun {_} hi => h.fixd_of (τ := σ.put i (some b')) (Nat.le_refl _) hf hi, h.locd, horg, ?_, ?_⟩
  · exact fun hj => h.low hj
  · intro j m o hj ho
    by_cases e : j = i
    · subst e
      rw [hi] at hj; cases hj
      rw [St.at_put, if_pos rfl] at ho; cases ho
      exact hb'
    · rw [St.at_put, if_neg e] at ho
      have hne := h.inj hi hj hb ho (fun e' => e e'.symm) hrw
      exact (h.obj hj ho).heap (hsame m.b (fun e' => hne e'.symm))
  · intro j k m n oj ok hj hk hoj hok hne hr
    by_cases e : j = i
    · subst e
      rw [hi] at hj; cases hj
      have e' : k ≠ j := fun e' => hne e'.symm
      rw [St.at_put, if_neg e'] at hok
      exact h.inj hi hk hb hok hne hrw
    · rw [St.at_put, if_neg e] at hoj
      by_cases e' : k = i
      · subst e'
        rw [hi] at hk; cases hk
        have := h.inj hi hj hb hoj (fun e' => e e'.symm) hrw
        exact fun e'' => this e''.symm
      · rw [St.at_put, if_neg e'] at hok
        exact h.inj hj hk hoj hok hne hr
  · exact h.glob

theorem Ext.put {ι : Inj} {σ : St} {i : Nat} {l : Loc} (hi : ι i = some l) (o : Option Blk) : Ext ι ι σ (σ.put i o) :=
  ⟨Inj.le_refl ι, Nat.le_refl _, fun j _ hn => ⟨hn, by
    have : j ≠ i := fun e => by rw [e, hi] at hn; cases hn
    rw [St.at_put, if_neg this]⟩⟩

/-- A block that is forgotten. -/
theorem Rep.kill {ι : Inj} {σ : St} {w : World} (h : Rep P ι σ w) {i : Nat} {b : Blk} (hb : σ.at i = some b) (hl : b.isLp = false) : Rep P ι (σ.put i none) w := by
  have hf := h.fix_put hb hl none
  have hown : ∀ {j m o'}, ι j = some m → (σ.put i none).at j = some o' → o'.rw = true → Gh.pub m.b := by
    intro j m o' hj ho hr
    by_cases e : j = i
    · subst e; rw [St.at_put, if_pos rfl] at ho; cases ho
    · rw [St.at_put, if_neg e] at ho; exact h.own hj ho hr
  have horg : ∀ {j m cs e}, ι j = some m → (σ.put i none).at j = some (.row cs e 0 0 false) → m.off = 0 := by
    intro j m cs e' hj ho
    by_cases e : j = i
    · subst e; rw [St.at_put, if_pos rfl] at ho; cases ho
    · rw [St.at_put, if_neg e] at ho; exact h.org hj ho
  refine ⟨?_, ?_, keep_same h.kept hf, hown, fun {_} hi => h.fixd_of (τ := σ.put i none) (Nat.le_refl _) hf hi, h.locd, horg, ?_, ?_⟩
  · exact fun hj => h.low hj
  · intro j m o hj ho
    by_cases e : j = i
    · subst e; rw [St.at_put, if_pos rfl] at ho; cases ho
    · rw [St.at_put, if_neg e] at ho; exact h.obj hj ho
  · intro j k m n oj ok hj hk hoj hok
    by_cases e : j = i
    · subst e; rw [St.at_put, if_pos rfl] at hoj; cases hoj
    · by_cases e' : k = i
      · subst e'; rw [St.at_put, if_pos rfl] at hok; cases hok
      · rw [St.at_put, if_neg e] at hoj; rw [St.at_put, if_neg e'] at hok
        exact h.inj hj hk hoj hok
  · exact h.glob

/-! ### Reading -/

theorem cell_of {w : World} {b o : Nat} {C : Array Value} {e : TypeId} {F : Nat × Nat} (h : w.heap[b]? = some (.cells C e F)) : w.cell? ⟨b, o, none⟩ = C[o]? := by
  simp [World.cell?, h]

theorem frozen_of {w : World} {b o : Nat} {C : Array Value} {e : TypeId} {F : Nat × Nat} (h : w.heap[b]? = some (.cells C e F)) :
    w.frozen? ⟨b, o, none⟩ = (decide (F.1 ≤ o) && decide (o < F.2)) := by
  simp [World.frozen?, h]

theorem add_off (b o n : Nat) : (Addr.add ⟨b, o, none⟩ n) = ⟨b, o + n, none⟩ := by
  unfold Addr.add
  split
  · rename_i h; subst h; rfl
  · rfl

theorem row_at {σ : St} {i : Nat} {cs : List V} (h : σ.row i = some cs) : ∃ e lo hi ro, σ.at i = some (.row cs e lo hi ro) := by
  unfold St.row at h
  split at h
  · rename_i cs' e lo hi ro hh; cases h; exact ⟨e, lo, hi, ro, hh⟩
  · cases h

theorem Rep.load {ι : Inj} {σ : St} {w : World} (h : Rep P ι σ w) {i o : Nat} {l : Loc} {v : V} (hi : ι i = some l) (hv : σ.load i o = some v) :
    ∃ x, w.cell? ⟨l.b, l.off + o, none⟩ = some x ∧ gam ι v = some x := by
  unfold St.load at hv
  cases hr : σ.row i with
  | none => rw [hr] at hv; cases hv
  | some cs =>
    rw [hr] at hv
    obtain ⟨e, lo, hi', ro, ha⟩ := row_at hr
    obtain ⟨C, F, h1, h2, h3, h4⟩ := h.obj hi ha
    obtain ⟨x, hx, hg⟩ := h3 o v hv
    exact ⟨x, by rw [cell_of h1]; exact hx, hg⟩

theorem listSub_get {l : List V} {o n : Nat} {m : List V} (h : listSub l o n = some m) : m.length = n ∧ ∀ j, j < n → m[j]? = l[o + j]? := by
  unfold listSub at h
  split at h
  · rename_i hb
    have hb := Nat.le_of_ble_eq_true hb
    cases h
    refine ⟨by simp; omega, fun j hj => ?_⟩
    rw [List.getElem?_take, if_pos hj, List.getElem?_drop]
  · cases h

theorem Rep.loadN {ι : Inj} {σ : St} {w : World} (h : Rep P ι σ w) {i o n : Nat} {l : Loc} {vs : List V} (hi : ι i = some l) (hv : σ.loadN i o n = some vs) :
    ∃ xs, (loadCells ⟨l.b, l.off + o, none⟩ n).run P w = .ok xs.toArray w ∧ gams ι vs = some xs := by
  unfold St.loadN at hv
  cases hr : σ.row i with
  | none => rw [hr] at hv; cases hv
  | some cs =>
    rw [hr] at hv
    obtain ⟨e, lo, hi', ro, ha⟩ := row_at hr
    obtain ⟨C, F, h1, h2, h3, h4⟩ := h.obj hi ha
    obtain ⟨hlen, hget⟩ := listSub_get hv
    have hcell : ∀ j, j < n → ∃ x, C[l.off + o + j]? = some x ∧ ∀ v, vs[j]? = some v → gam ι v = some x := by
      intro j hj
      have hjl : j < vs.length := by omega
      obtain ⟨x, hx, hg⟩ := h3 (o + j) vs[j] (by rw [← hget j hj]; simp [hjl])
      refine ⟨x, by rw [← hx]; congr 1; omega, fun v hv => ?_⟩
      simp [hjl] at hv; rw [← hv]; exact hg
    refine ⟨(List.range n).map fun j => C.getD (l.off + o + j) undef, ?_, ?_⟩
    · exact run_loadCells w _ n _ (fun j hj => by
        rw [add_off, cell_of h1]
        obtain ⟨x, hx, _⟩ := hcell j hj
        simp [hx])
    · refine gams_of (by simp [hlen]) (fun j v hj => ?_)
      have hjn : j < n := by
        rcases Nat.lt_or_ge j n with h' | h'
        · exact h'
        · rw [List.getElem?_eq_none (by omega)] at hj; cases hj
      obtain ⟨x, hx, hg⟩ := hcell j hjn
      refine ⟨x, ?_, hg v hj⟩
      simp [hjn, hx]

/-! ### Writing -/

theorem oneCell_of_scalar {ι : Inj} {v : V} {x : Value} (h : gam ι v = some x) (hs : v.scalar = true) : x.oneCell' = true := by
  cases v with
  | agg _ => simp [V.scalar] at hs
  | tuple _ => simp [V.scalar] at hs
  | ptr a => cases a with
    | none => simp [gam] at h; subst h; rfl
    | some a => obtain ⟨i, o⟩ := a; simp only [gam] at h; split at h <;> cases h; rfl
  | slice a n c op => cases a with
    | none => cases op <;> simp [gam] at h; (subst h; rfl)
    | some a => obtain ⟨i, o⟩ := a; simp only [gam] at h; split at h <;> cases h; rfl
  | map a => cases a with
    | none => simp [gam] at h; subst h; rfl
    | some a => simp only [gam] at h; split at h <;> cases h; rfl
  | func _ _ _ => simp only [gam] at h; split at h <;> cases h; rfl
  | yld _ => simp only [gam] at h; split at h <;> cases h; rfl
  | iface _ _ => simp only [gam] at h; split at h <;> cases h; rfl
  | bool _ => simp [gam] at h; subst h; rfl
  | int _ _ => simp [gam] at h; subst h; rfl
  | str _ => simp [gam] at h; subst h; rfl
  | nilFunc => simp [gam] at h; subst h; rfl
  | nilIface => simp [gam] at h; subst h; rfl

theorem allScalar_mem : ∀ {l : List V}, allScalar l = true → ∀ v ∈ l, v.scalar = true
  | [], _, v, h => by cases h
  | w :: l, h, v, hv => by
    unfold allScalar at h
    split at h
    · rename_i hw
      cases hv with
      | head => exact hw
      | tail _ hv => exact allScalar_mem h v hv
    · cases h

theorem scalars_one {ι : Inj} {vs : List V} {xs : List Value} (hx : gams ι vs = some xs) (hs : allScalar vs = true) : ∀ x ∈ xs, x.oneCell' = true := by
  intro x hxm
  obtain ⟨j, hj, rfl⟩ := List.getElem_of_mem hxm
  have hj' : j < vs.length := by rw [← gams_length hx]; exact hj
  obtain ⟨z', h1, h2⟩ := gams_get hx (List.getElem?_eq_getElem hj')
  rw [List.getElem?_eq_getElem hj] at h1
  cases h1
  exact oneCell_of_scalar h2 (allScalar_mem hs _ (List.getElem_mem hj'))

theorem run_storeCells_at (b o : Nat) : ∀ (xs : List Value) (i : Nat) (w : World) {C : Array Value} {e : TypeId} {F : Nat × Nat}, w.heap[b]? = some (.cells C e F) →
    o + i + xs.length ≤ C.size → (∀ j, j < xs.length → ¬ (F.1 ≤ o + i + j ∧ o + i + j < F.2)) → (∀ x ∈ xs, x.oneCell' = true) →
    ∃ w', (storeCells ⟨b, o, none⟩ xs i).run P w = .ok () w' ∧ Sm w w' ∧ (∀ k, k ≠ b → w'.heap[k]? = w.heap[k]?) ∧
      ∃ C', w'.heap[b]? = some (.cells C' e F) ∧ C'.size = C.size ∧ ∀ k, C'[k]? = if o + i ≤ k ∧ k < o + i + xs.length then xs[k - (o + i)]? else C[k]?
  | [], i, w, C, e, F, hb, _, _, _ => by
    refine ⟨w, rfl, ⟨rfl, rfl⟩, fun _ _ => rfl, C, hb, rfl, fun k => ?_⟩
    rw [if_neg (by simp)]
  | x :: xs, i, w, C, e, F, hb, hs, hf, ho => by
    simp only [List.length_cons] at hs
    have hlt : o + i < C.size := by omega
    have hcell : w.cell? (Addr.add ⟨b, o, none⟩ i) = some C[o + i] := by rw [add_off, cell_of hb]; simp [hlt]
    have hfr : w.frozen? (Addr.add ⟨b, o, none⟩ i) = false := by
      rw [add_off, frozen_of hb]
      have := hf 0 (by simp)
      simp only [Nat.add_zero] at this
      rw [Bool.eq_false_iff]
      intro h
      simp only [Bool.and_eq_true, decide_eq_true_eq] at h
      exact this h
    have hstore : (store (Addr.add ⟨b, o, none⟩ i) x).run P w = .ok () (w.setCell (Addr.add ⟨b, o, none⟩ i) x) := by
      rw [run_store P w _ x .plain (ho x (by simp)), hcell]
      simp [hfr]
    have hbl : b < w.heap.size := (Array.getElem?_eq_some_iff.1 hb).1
    have hb1 : (w.setCell (Addr.add ⟨b, o, none⟩ i) x).heap[b]? = some (.cells (C.setIfInBounds (o + i) x) e F) := by
      rw [add_off]
      simp [World.setCell, Array.getElem?_modify, hb]
    have hn1 : ∀ k, k ≠ b → (w.setCell (Addr.add ⟨b, o, none⟩ i) x).heap[k]? = w.heap[k]? := by
      intro k hk
      rw [add_off]
      simp [World.setCell, Array.getElem?_modify, Ne.symm hk]
    have hs1 : Sm w (w.setCell (Addr.add ⟨b, o, none⟩ i) x) := ⟨rfl, rfl⟩
    obtain ⟨w', h1, hsm, h2, C', h3, h4, h5⟩ := run_storeCells_at b o xs (i + 1) (w.setCell (Addr.add ⟨b, o, none⟩ i) x) hb1 (by simp; omega)
      (fun j hj => by have := hf (j + 1) (by simp; omega); rwa [show o + i + (j + 1) = o + (i + 1) + j by omega] at this)
      (fun y hy => ho y (by simp [hy]))
    refine ⟨w', ?_, ⟨hsm.1.trans hs1.1, hsm.2.trans hs1.2⟩, fun k hk => (h2 k hk).trans (hn1 k hk), C', h3, by simpa using h4, fun k => ?_⟩
    · simp only [storeCells, Sem.run_bind, hstore, Result.andThen_ok, h1]
    · rw [h5 k]
      simp only [List.length_cons]
      by_cases c1 : o + (i + 1) ≤ k ∧ k < o + (i + 1) + xs.length
      · rw [if_pos c1, if_pos (by omega)]
        rw [show k - (o + i) = (k - (o + (i + 1))) + 1 by omega]
        simp
      · rw [if_neg c1]
        by_cases c2 : k = o + i
        · subst c2
          rw [if_pos (by omega)]
          simp [hlt]
        · rw [if_neg (by omega)]
          rw [Array.getElem?_setIfInBounds_ne (Ne.symm c2)]

theorem listPut_get {α : Type} : ∀ (vs : List α) (l : List α) (o : Nat), o + vs.length ≤ l.length →
    (listPut l o vs).length = l.length ∧ ∀ k, (listPut l o vs)[k]? = if o ≤ k ∧ k < o + vs.length then vs[k - o]? else l[k]?
  | [], l, o, _ => ⟨rfl, fun k => by
      rw [if_neg (by simp)]
      rfl⟩
  | v :: vs, l, o, h => by
    simp only [List.length_cons] at h
    obtain ⟨h1, h2⟩ := listPut_get vs (l.set o v) (o + 1) (by simp; omega)
    refine ⟨by simpa [listPut] using h1, fun k => ?_⟩
    rw [listPut, h2 k]
    simp only [List.length_cons]
    by_cases c1 : o + 1 ≤ k ∧ k < o + 1 + vs.length
    · rw [if_pos c1, if_pos (by omega), show k - o = (k - (o + 1)) + 1 by omega]
      simp
    · rw [if_neg c1]
      by_cases c2 : k = o
      · subst c2
        rw [if_pos (by omega)]
        simp [List.getElem?_set, show k < l.length by omega]
      · rw [if_neg (by omega), List.getElem?_set_ne (Ne.symm c2)]

theorem mayWrite_spec {len lo hi : Nat} {ro : Bool} {o n : Nat} (h : mayWrite len lo hi ro o n = true) : ro = false ∧ o + n ≤ len ∧ (hi ≤ o ∨ o + n ≤ lo) := by
  unfold mayWrite at h
  simp only [Bool.and_eq_true, Bool.or_eq_true, Bool.not_eq_true'] at h
  obtain ⟨⟨h1, h2⟩, h3⟩ := h
  exact ⟨h1, Nat.le_of_ble_eq_true h2, h3.imp Nat.le_of_ble_eq_true Nat.le_of_ble_eq_true⟩

/-- Cells that are stored. -/
theorem Rep.storeN {ι : Inj} {σ τ : St} {w : World} (h : Rep P ι σ w) {i o : Nat} {l : Loc} {vs : List V} {xs : List Value} (hi : ι i = some l)
    (hv : σ.storeN i o vs = some τ) (hx : gams ι vs = some xs) :
    ∃ w', (storeCells ⟨l.b, l.off + o, none⟩ xs).run P w = .ok () w' ∧ Rep P ι τ w' ∧ Ext ι ι σ τ := by
  unfold St.storeN at hv
  split at hv
  case h_2 => cases hv
  rename_i cs e lo hi' ro ha
  split at hv
  case h_2 => cases hv
  rename_i hm
  cases hv
  rw [Bool.and_eq_true] at hm
  have hone := scalars_one hx hm.2
  obtain ⟨hro, hlen, hfz⟩ := mayWrite_spec hm.1
  obtain ⟨C, F, h1, h2, h3, h4⟩ := h.obj hi ha
  have hxl := gams_length hx
  obtain ⟨w', r1, rs, r2, C', r3, r4, r5⟩ := run_storeCells_at (P := P) l.b (l.off + o) xs 0 w h1 (by omega)
    (fun j hj hc => by
      have := h4 hro (o + j) (by omega) (by omega) (by omega)
      omega) hone
  refine ⟨w', r1, h.write hi ha (by simp [Blk.rw, hro]) rs r2 ?_ (fun {_ _} hh => by cases hh; exact h.org hi ha), Ext.put hi _⟩
  obtain ⟨p1, p2⟩ := listPut_get vs cs o (by omega)
  refine ⟨C', F, r3, by rw [p1, r4]; exact h2, fun k v hk => ?_, fun hr k a b c => ?_⟩
  · rw [p2] at hk
    rw [r5]
    by_cases c : o ≤ k ∧ k < o + vs.length
    · rw [if_pos c] at hk
      obtain ⟨x, hx1, hx2⟩ := gams_get hx hk
      refine ⟨x, ?_, hx2⟩
      rw [if_pos (by omega), show l.off + k - (l.off + o + 0) = k - o by omega]
      exact hx1
    · rw [if_neg c] at hk
      obtain ⟨x, hx1, hx2⟩ := h3 k v hk
      refine ⟨x, ?_, hx2⟩
      rw [if_neg (by omega)]
      exact hx1
  · rw [p1] at c
    exact h4 hr k a b c

/-- A new row's frozen cells may be told more widely. -/
theorem Rep.frz {ι : Inj} {σ : St} {w : World} {vs : List V} {e lo hi : Nat} (h : Rep P ι (σ.new (.row vs e 0 0 false)) w) : Rep P ι (σ.new (.row vs e lo hi false)) w := by
  have hat : ∀ j, j ≠ σ.next → (σ.new (.row vs e lo hi false)).at j = (σ.new (.row vs e 0 0 false)).at j := by
    intro j hj; rw [St.at_new, St.at_new, if_neg hj, if_neg hj]
  have hnew : ∀ lo hi, (σ.new (.row vs e lo hi false)).at σ.next = some (.row vs e lo hi false) := by intro lo hi; rw [St.at_new, if_pos rfl]
  have hown : ∀ {j m o'}, ι j = some m → (σ.new (.row vs e lo hi false)).at j = some o' → o'.rw = true → Gh.pub m.b := by
    intro j m o' hj ho hr
    by_cases e' : j = σ.next
    · subst e'; exact h.own hj (hnew 0 0) rfl
    · rw [hat j e'] at ho; exact h.own hj ho hr
  have horg : ∀ {j m cs e'}, ι j = some m → (σ.new (.row vs e lo hi false)).at j = some (.row cs e' 0 0 false) → m.off = 0 := by
    intro j m cs e' hj ho
    by_cases e' : j = σ.next
    · subst e'; exact h.org hj (hnew 0 0)
    · rw [hat j e'] at ho; exact h.org hj ho
  have hf : ∀ i, Gh.fix i → (σ.new (.row vs e lo hi false)).at i = (σ.new (.row vs e 0 0 false)).at i := fun i hi' => by
    obtain ⟨_, o, h1, h2⟩ := h.fixd hi'
    refine hat i (fun e' => ?_)
    subst e'
    rw [hnew] at h1; cases h1; cases h2
  refine ⟨h.low, ?_, keep_same h.kept hf, hown, fun {_} hi' => h.fixd_of (τ := σ.new (.row vs e lo hi false)) (Nat.le_refl _) hf hi', h.locd, horg, ?_, h.glob⟩
  · intro i l o hi' ho
    by_cases e' : i = σ.next
    · subst e'
      rw [hnew] at ho; cases ho
      obtain ⟨C, F, h1, h2, h3, h4⟩ := h.obj hi' (hnew 0 0)
      exact ⟨C, F, h1, h2, h3, fun r o a b c => absurd (h4 r o a b c).2 (Nat.not_lt_zero _)⟩
    · rw [hat i e'] at ho; exact h.obj hi' ho
  · intro i j l m oi oj hi' hj hoi hoj hne hr
    by_cases e1 : i = σ.next
    · subst e1
      have e2 : j ≠ σ.next := fun e2 => hne e2.symm
      rw [hat j e2] at hoj
      exact h.inj hi' hj (hnew 0 0) hoj hne rfl
    · rw [hat i e1] at hoi
      by_cases e2 : j = σ.next
      · subst e2
        exact h.inj hi' hj hoi (hnew 0 0) hne hr
      · rw [hat j e2] at hoj
        exact h.inj hi' hj hoi hoj hne hr

/-- A row that goes on under another number, in the same block. -/
theorem Rep.move {ι : Inj} {σ : St} {w w' : World} (h : Rep P ι σ w) {i : Nat} {l m : Loc} {b b' : Blk} (hi : ι i = some l) (hb : σ.at i = some b)
    (hrw : b.rw = true) (hs : Sm w w') (hsame : ∀ k, k ≠ l.b → w'.heap[k]? = w.heap[k]?) (hm : m.b = l.b) (hb' : Holds P (ι.add σ.next m) m w'.heap b') (hog : ∀ {cs e}, b' = .row cs e 0 0 false → m.off = 0) :
    Rep P (ι.add σ.next m) ((σ.put i none).new b') w' ∧ Ext ι (ι.add σ.next m) σ ((σ.put i none).new b') := by
  have hf := h.fresh
  have hnx : (σ.put i none).next = σ.next := rfl
  have hat : ∀ j, ((σ.put i none).new b').at j = if j = σ.next then some b' else if j = i then none else σ.at j := by
    intro j; rw [St.at_new, hnx, St.at_put]
  have hil := h.low hi
  have hown : ∀ {j n o'}, ι.add σ.next m j = some n → ((σ.put i none).new b').at j = some o' → o'.rw = true → Gh.pub n.b := by
    intro j n o' hj ho hr
    rw [hat] at ho
    by_cases e : j = σ.next
    · subst e; rw [Inj.add_self] at hj; cases hj; rw [hm]; exact h.own hi hb hrw
    · rw [if_neg e] at ho
      rw [Inj.add_ne e] at hj
      by_cases e2 : j = i
      · rw [if_pos e2] at ho; cases ho
      · rw [if_neg e2] at ho; exact h.own hj ho hr
  have horg : ∀ {j n cs e}, ι.add σ.next m j = some n → ((σ.put i none).new b').at j = some (.row cs e 0 0 false) → n.off = 0 := by
    intro j n cs e' hj ho
    rw [hat] at ho
    by_cases e : j = σ.next
    · subst e; rw [Inj.add_self] at hj; cases hj; rw [if_pos rfl] at ho; exact hog (Option.some.inj ho)
    · rw [if_neg e] at ho
      rw [Inj.add_ne e] at hj
      by_cases e2 : j = i
      · rw [if_pos e2] at ho; cases ho
      · rw [if_neg e2] at ho; exact h.org hj ho
  have hnl : b.isLp = false := by cases b <;> simp_all [Blk.rw, Blk.isLp]
  have hf1 := h.fix_put hb hnl none
  have hfx : ∀ j, Gh.fix j → ((σ.put i none).new b').at j = σ.at j := fun j hj => by
    have := (h.fixd hj).1
    rw [St.at_new, if_neg (by rw [hnx]; omega)]; exact hf1 j hj
  refine ⟨⟨?_, ?_, keep_write h.kept (h.own hi hb hrw) hsame hs hfx, hown, fun {_} hi => h.fixd_of (τ := (σ.put i none).new b') (Nat.le_succ _) hfx hi, fun {_ _} hi => h.locd_le (Inj.le_add hf) hi, horg, ?_, ?_⟩, ⟨Inj.le_add hf, Nat.le_succ _, fun j hj hn => ?_⟩⟩
  · intro j n hj
    by_cases e : j = σ.next
    · subst e; exact Nat.lt_succ_self _
    · rw [Inj.add_ne e] at hj; exact Nat.lt_succ_of_lt (h.low hj)
  · intro j n o hj ho
    rw [hat] at ho
    by_cases e : j = σ.next
    · subst e
      rw [Inj.add_self] at hj; cases hj
      rw [if_pos rfl] at ho; cases ho
      exact hb'
    · rw [if_neg e] at ho
      rw [Inj.add_ne e] at hj
      by_cases e2 : j = i
      · rw [if_pos e2] at ho; cases ho
      · rw [if_neg e2] at ho
        have hne := h.inj hi hj hb ho (fun e' => e2 e'.symm) hrw
        exact ((h.obj hj ho).mono (Inj.le_add hf)).heap (hsame n.b (fun e' => hne e'.symm))
  · intro j k n q oj ok hj hk hoj hok hne hr
    rw [hat] at hoj hok
    by_cases e : j = σ.next
    · subst e
      rw [Inj.add_self] at hj; cases hj
      have e' : k ≠ σ.next := fun e' => hne e'.symm
      rw [Inj.add_ne e'] at hk
      rw [if_neg e'] at hok
      by_cases e2 : k = i
      · rw [if_pos e2] at hok; cases hok
      · rw [if_neg e2] at hok
        rw [hm]
        exact h.inj hi hk hb hok (fun e' => e2 e'.symm) hrw
    · rw [if_neg e] at hoj
      rw [Inj.add_ne e] at hj
      by_cases e2 : j = i
      · rw [if_pos e2] at hoj; cases hoj
      · rw [if_neg e2] at hoj
        by_cases e3 : k = σ.next
        · subst e3
          rw [Inj.add_self] at hk; cases hk
          rw [hm]
          exact fun e'' => h.inj hi hj hb hoj (fun e' => e2 e'.symm) hrw e''.symm
        · rw [if_neg e3] at hok
          rw [Inj.add_ne e3] at hk
          by_cases e4 : k = i
          · rw [if_pos e4] at hok; cases hok
          · rw [if_neg e4] at hok
            exact h.inj hj hk hoj hok hne hr
  · intro g hg
    have := h.glob g hg
    have hne : g ≠ σ.next := by intro e; rw [e, hf] at this; cases this
    rw [Inj.add_ne hne]; exact this
  · have hne : j ≠ σ.next := Nat.ne_of_lt hj
    have hne2 : j ≠ i := fun e => by rw [e, hi] at hn; cases hn
    exact ⟨by rw [Inj.add_ne hne]; exact hn, by rw [hat, if_neg hne, if_neg hne2]⟩

/-- A new row of cells, 'sp' elements of it to spare. -/
theorem Rep.newRow {ι : Inj} {σ : St} {w w' : World} (h : Rep P ι σ w) {vs : List V} {xs : List Value} (hx : gams ι vs = some xs) (e : TypeId) (C : Array Value) (sp : Nat)
    (hsz : vs.length + sp * P.cellsOf e ≤ C.size) (hC : ∀ k, k < xs.length → C[k]? = xs[k]?) (hh : w'.heap = w.heap.push (.cells C e)) (hs : Sm w w') :
    Rep P (ι.add σ.next ⟨w.heap.size, 0, sp⟩) (σ.new (.row vs e 0 0 false)) w' ∧
      Ext ι (ι.add σ.next ⟨w.heap.size, 0, sp⟩) σ (σ.new (.row vs e 0 0 false)) := by
  refine ⟨h.alloc _ _ sp hh hs ⟨C, (0, 0), by simp, by simpa using hsz, fun o v ho => ?_, fun _ o a b c => absurd b (Nat.not_lt_zero _)⟩, Ext.alloc h _ _⟩
  obtain ⟨x, hx1, hx2⟩ := gams_get hx ho
  have hlt : o < xs.length := (List.getElem?_eq_some_iff.1 hx1).1
  exact ⟨x, by rw [Nat.zero_add, hC o hlt]; exact hx1, gam_mono (Inj.le_add h.fresh) v hx2⟩

end Go.Den
end

section
/- Which operation of the interpreter stands for which of the model's, and that each answers as the model's does. Part one: values alone. -/
namespace Go.Den

variable [Gh] {P : Program}

def cst0 : Value → Option V
  | .bool b => some (.bool b)
  | .int k n => some (.int k n)
  | .string s => some (.str s.data.toList)
  | .pointer none => some (.ptr none)
  | .slice none n c => some (.slice none n c false)
  | .map none => some (.map none)
  | .nilFunc => some .nilFunc
  | .nilIface => some .nilIface
  | _ => none

def cstL : List Value → Option (List V)
  | [] => some []
  | v :: l => match cst0 v with
    | some x => match cstL l with
      | some xs => some (x :: xs)
      | none => none
    | none => none

def cst : Value → Option V
  | .agg cs => match cstL cs.toList with
    | some l => some (.agg l)
    | none => none
  | .tuple cs => match cstL cs.toList with
    | some l => some (.tuple l)
    | none => none
  | .iface t v => match cst0 v with
    | some x => some (.iface t x)
    | none => none
  | v => cst0 v

theorem cst0_gam {ι : Inj} : ∀ {v : Value} {a : V}, cst0 v = some a → gam ι a = some v := by
  intro v a h
  unfold cst0 at h
  split at h <;> cases h <;> simp [gam]

theorem cstL_gam {ι : Inj} : ∀ {l : List Value} {m : List V}, cstL l = some m → gams ι m = some l
  | [], m, h => by simp [cstL] at h; subst h; simp [gams]
  | v :: l, m, h => by
    unfold cstL at h
    split at h
    · rename_i x h1
      split at h
      · rename_i xs h2
        cases h
        exact gams_cons.2 ⟨v, l, cst0_gam h1, cstL_gam h2, rfl⟩
      · cases h
    · cases h

theorem cst_gam {ι : Inj} {v : Value} {a : V} (h : cst v = some a) : gam ι a = some v := by
  unfold cst at h
  split at h
  · split at h
    · rename_i l h1; cases h; simp [gam, cstL_gam h1]
    · cases h
  · split at h
    · rename_i l h1; cases h; simp [gam, cstL_gam h1]
    · cases h
  · split at h
    · rename_i x h1; cases h; simp [gam, cst0_gam h1]
    · cases h
  · exact cst0_gam h

/-- An operand; 'G': how many package-level variables there are. -/
def compA (G : Nat) : Operand → Option A
  | .tmp t => some (.t t)
  | .const v => match cst v with
    | some a => some (.c a)
    | none => none
  | .global g => match Nat.blt g G with
    | true => some (.g g)
    | false => none
  | .func f => some (.f f)

def compAs (G : Nat) : List Operand → Option (List A)
  | [] => some []
  | x :: l => match compA G x with
    | some a => match compAs G l with
      | some as => some (a :: as)
      | none => none
    | none => none

/-- What the interpreter has of operands is what the model has. -/
def RA (G : Nat) (ι : Inj) (e : E) (ρ : Operand → Value) : Prop := ∀ x a v, compA G x = some a → ev e a = some v → gam ι v = some (ρ x)

theorem RA.list {G : Nat} {ι : Inj} {e : E} {ρ : Operand → Value} (h : RA G ι e ρ) : ∀ {xs : List Operand} {as : List A} {vs : List V}, compAs G xs = some as → evs e as = some vs → gams ι vs = some (xs.map ρ)
  | [], as, vs, ha, hv => by simp [compAs] at ha; subst ha; simp [evs] at hv; subst hv; simp [gams]
  | x :: l, as, vs, ha, hv => by
    unfold compAs at ha
    split at ha
    · rename_i a h1
      split at ha
      · rename_i as' h2
        cases ha
        unfold evs at hv
        split at hv
        · rename_i v h3
          split at hv
          · rename_i vs' h4
            cases hv
            exact gams_cons.2 ⟨ρ x, l.map ρ, h x a v h1 h3, h.list h2 h4, by simp⟩
          · cases hv
        · cases hv
      · cases ha
    · cases ha

theorem gams_nil {ι : Inj} {vs : List V} (h : gams ι vs = some []) : vs = [] := by
  cases vs with
  | nil => rfl
  | cons v l => obtain ⟨x, xs, _, _, e⟩ := gams_cons.1 h; cases e

theorem gams_one {ι : Inj} {vs : List V} {x : Value} (h : gams ι vs = some [x]) : ∃ v, vs = [v] ∧ gam ι v = some x := by
  cases vs with
  | nil => simp [gams] at h
  | cons v l =>
    obtain ⟨y, ys, h1, h2, e⟩ := gams_cons.1 h
    cases e
    rw [gams_nil h2]
    exact ⟨v, rfl, h1⟩

theorem gams_uncons {ι : Inj} {vs : List V} {x : Value} {xs : List Value} (h : gams ι vs = some (x :: xs)) : ∃ v l, vs = v :: l ∧ gam ι v = some x ∧ gams ι l = some xs := by
  cases vs with
  | nil => simp [gams] at h
  | cons v l =>
    obtain ⟨y, ys, h1, h2, e⟩ := gams_cons.1 h
    cases e
    exact ⟨v, l, rfl, h1, h2⟩

theorem gams_two {ι : Inj} {vs : List V} {x y : Value} (h : gams ι vs = some [x, y]) : ∃ v u, vs = [v, u] ∧ gam ι v = some x ∧ gam ι u = some y := by
  obtain ⟨v, l, rfl, h1, h2⟩ := gams_uncons h
  obtain ⟨u, rfl, h3⟩ := gams_one h2
  exact ⟨v, u, rfl, h1, h3⟩

theorem gams_three {ι : Inj} {vs : List V} {x y z : Value} (h : gams ι vs = some [x, y, z]) : ∃ v u t, vs = [v, u, t] ∧ gam ι v = some x ∧ gam ι u = some y ∧ gam ι t = some z := by
  obtain ⟨v, l, rfl, h1, h2⟩ := gams_uncons h
  obtain ⟨u, t, rfl, h3, h4⟩ := gams_two h2
  exact ⟨v, u, t, rfl, h1, h3, h4⟩

theorem gam_ptr {ι : Inj} {i o : Nat} {x : Value} (h : gam ι (.ptr (some (i, o))) = some x) : ∃ l, ι i = some l ∧ x = .pointer (some ⟨l.b, l.off + o, none⟩) := by
  rw [gam] at h
  split at h
  · rename_i l hl; cases h; exact ⟨l, hl, rfl⟩
  · cases h

theorem gam_ptr_none {ι : Inj} {x : Value} (h : gam ι (.ptr none) = some x) : x = .pointer none := by simpa [gam] using h.symm
theorem gam_int {ι : Inj} {k : IntKind} {n : Int} {x : Value} (h : gam ι (.int k n) = some x) : x = .int k n := by simpa [gam] using h.symm
theorem gam_bool {ι : Inj} {b : Bool} {x : Value} (h : gam ι (.bool b) = some x) : x = .bool b := by simpa [gam] using h.symm
theorem gam_str {ι : Inj} {s : List UInt8} {x : Value} (h : gam ι (.str s) = some x) : x = .string ⟨s.toArray⟩ := by simpa [gam] using h.symm
theorem gam_nilIface {ι : Inj} {x : Value} (h : gam ι .nilIface = some x) : x = .nilIface := by simpa [gam] using h.symm
theorem gam_nilFunc {ι : Inj} {x : Value} (h : gam ι .nilFunc = some x) : x = .nilFunc := by simpa [gam] using h.symm
theorem gam_agg {ι : Inj} {cs : List V} {x : Value} (h : gam ι (.agg cs) = some x) : ∃ L, gams ι cs = some L ∧ x = .agg L.toArray := by
  rw [gam] at h
  split at h
  · rename_i l hl; cases h; exact ⟨l, hl, rfl⟩
  · cases h
theorem gam_tuple {ι : Inj} {cs : List V} {x : Value} (h : gam ι (.tuple cs) = some x) : ∃ L, gams ι cs = some L ∧ x = .tuple L.toArray := by
  rw [gam] at h
  split at h
  · rename_i l hl; cases h; exact ⟨l, hl, rfl⟩
  · cases h
theorem gam_iface {ι : Inj} {t : Nat} {v : V} {x : Value} (h : gam ι (.iface t v) = some x) : ∃ y, gam ι v = some y ∧ x = .iface t y := by
  rw [gam] at h
  split at h
  · rename_i l hl; cases h; exact ⟨l, hl, rfl⟩
  · cases h
theorem gam_func {ι : Inj} {fn : Fn} {f c : List V} {x : Value} (h : gam ι (.func fn f c) = some x) : ∃ F C, gams ι f = some F ∧ gams ι c = some C ∧ x = .func fn F.toArray C.toArray := by
  rw [gam] at h
  split at h
  · rename_i F C h1 h2; cases h; exact ⟨F, C, h1, h2, rfl⟩
  · cases h
theorem gam_slice {ι : Inj} {i o n c : Nat} {op : Bool} {x : Value} (h : gam ι (.slice (some (i, o)) n c op) = some x) :
    ∃ l, ι i = some l ∧ x = .slice (some ⟨l.b, l.off + o, none⟩) n (capO op c l.spare) := by
  rw [gam] at h
  split at h
  · rename_i l hl; cases h; exact ⟨l, hl, rfl⟩
  · cases h
theorem gam_slice_none {ι : Inj} {n c : Nat} {op : Bool} {x : Value} (h : gam ι (.slice none n c op) = some x) : op = false ∧ x = .slice none n c := by
  cases op
  · simp [gam] at h; exact ⟨rfl, h.symm⟩
  · simp [gam] at h
theorem gam_map {ι : Inj} {i : Nat} {x : Value} (h : gam ι (.map (some i)) = some x) : ∃ l, ι i = some l ∧ x = .map (some l.b) := by
  rw [gam] at h
  split at h
  · rename_i l hl; cases h; exact ⟨l, hl, rfl⟩
  · cases h

theorem gam_yld {ι : Inj} {k : Nat} {x : Value} (h : gam ι (.yld k) = some x) : ∃ l, ι k = some l ∧ x = .func (.yield l.b) #[] #[] := by
  rw [gam] at h
  split at h
  · rename_i l hl; cases h; exact ⟨l, hl, rfl⟩
  · cases h

/-- A value's cells are the value's cells. -/
theorem cells_gam {ι : Inj} {v : V} {x : Value} (h : gam ι v = some x) : gams ι v.cells = some x.cells.toList := by
  cases v with
  | agg cs => obtain ⟨L, h1, rfl⟩ := gam_agg h; simpa [V.cells, Value.cells] using h1
  | tuple cs =>
    obtain ⟨L, h1, rfl⟩ := gam_tuple h
    exact gams_cons.2 ⟨_, [], h, by simp [gams], by simp [Value.cells]⟩
  | ptr a =>
    have : x.cells = #[x] := by
      cases a with
      | none => rw [gam_ptr_none h]; rfl
      | some a => obtain ⟨i, o⟩ := a; obtain ⟨l, _, rfl⟩ := gam_ptr h; rfl
    exact gams_cons.2 ⟨_, [], h, by simp [gams], by simp [this]⟩
  | slice a n c op =>
    have : x.cells = #[x] := by
      cases a with
      | none => rw [(gam_slice_none h).2]; rfl
      | some a => obtain ⟨i, o⟩ := a; obtain ⟨l, _, rfl⟩ := gam_slice h; rfl
    exact gams_cons.2 ⟨_, [], h, by simp [gams], by simp [this]⟩
  | map a =>
    have : x.cells = #[x] := by
      cases a with
      | none => have : x = .map none := by simpa [gam] using h.symm
                rw [this]; rfl
      | some a => obtain ⟨l, _, rfl⟩ := gam_map h; rfl
    exact gams_cons.2 ⟨_, [], h, by simp [gams], by simp [this]⟩
  | func fn f c => obtain ⟨F, C, _, _, rfl⟩ := gam_func h; exact gams_cons.2 ⟨_, [], h, by simp [gams], by simp [Value.cells]⟩
  | iface t v => obtain ⟨y, _, rfl⟩ := gam_iface h; exact gams_cons.2 ⟨_, [], h, by simp [gams], by simp [Value.cells]⟩
  | yld k => obtain ⟨l, _, rfl⟩ := gam_yld h; exact gams_cons.2 ⟨_, [], h, by simp [gams], by simp [Value.cells]⟩
  | bool b => rw [gam_bool h]; simp [V.cells, Value.cells, gams, gam]
  | int k n => rw [gam_int h]; simp [V.cells, Value.cells, gams, gam]
  | str s => rw [gam_str h]; simp [V.cells, Value.cells, gams, gam]
  | nilFunc => rw [gam_nilFunc h]; simp [V.cells, Value.cells, gams, gam]
  | nilIface => rw [gam_nilIface h]; simp [V.cells, Value.cells, gams, gam]

/-- How the model's operation answers what the interpreter's does. -/
def OutSim (P : Program) (ι : Inj) (σ : St) (w : World) (out : Out) (r : Result Next) : Prop := match out with
  | .val v τ => ∃ κ x w', r = .ok (.value x) w' ∧ gam κ v = some x ∧ Rep P κ τ w' ∧ Ext ι κ σ τ
  | .skip τ => ∃ κ w', r = .ok .skip w' ∧ Rep P κ τ w' ∧ Ext ι κ σ τ
  | .enter f args τ => τ = σ ∧ f < yBase ∧ ∃ xs, r = (callFunc f xs.toArray).run P w ∧ gams ι args = some xs
  | .round k args τ => τ = σ ∧ ∃ l xs, r = (Instr.yield l.b xs.toArray).run P w ∧ ι k = some l ∧ gams ι args = some xs
  | .panic v τ => τ = σ ∧ ∃ x, r = .halt (.panic x) w ∧ gam ι v = some x
  | .dfr fn cap args τ => τ = σ ∧ ∃ c a, r = .ok (.defer { target := .fn fn c.toArray, args := a.toArray }) w ∧ gams ι cap = some c ∧ gams ι args = some a

theorem OutSim.look {ι : Inj} {σ : St} {w : World} {v : V} {x : Value} {r : Result Next} (hr : r = .ok (.value x) w) (hg : gam ι v = some x) (h : Rep P ι σ w) :
    OutSim P ι σ w (.val v σ) r := ⟨ι, x, w, hr, hg, h, Ext.refl ι σ⟩

theorem val?_some {σ : St} {o : Option V} {out : Out} (h : val? σ o = some out) : ∃ v, o = some v ∧ out = .val v σ := by
  cases o with
  | none => cases h
  | some v => cases h; exact ⟨v, rfl, rfl⟩

end Go.Den
end

section
/- Operations that only look, and new blocks: each answers as the model's does. -/
namespace Go.Den

variable [Gh] {P : Program} {ι : Inj} {σ : St} {w : World} {ρ : Operand → Value} {vs : List V} {out : Out}

theorem gams_listPut : ∀ {vs : List V} {xs : List Value}, gams ι vs = some xs → ∀ (o : Nat) {l : List V} {L : List Value}, gams ι l = some L → gams ι (listPut l o vs) = some (listPut L o xs)
  | [], xs, h, o, l, L, hl => by simp [gams] at h; subst h; simpa [listPut] using hl
  | v :: vs, xs, h, o, l, L, hl => by
    obtain ⟨x, ys, h1, h2, rfl⟩ := gams_cons.1 h
    simp only [listPut]
    exact gams_listPut h2 (o + 1) (gams_set h1 o hl)

theorem foldl_put {α : Type} : ∀ (xs : List α) (i o : Nat) (cs : Array α), ((xs.zipIdx i).foldl (fun (cs : Array α) (x : α × Nat) => cs.setIfInBounds (o + x.2) x.1) cs).toList = listPut cs.toList (o + i) xs
  | [], i, o, cs => rfl
  | x :: xs, i, o, cs => by
    simp only [List.zipIdx_cons, List.foldl_cons, listPut]
    rw [foldl_put xs (i + 1) o]
    simp [Nat.add_assoc]

theorem fill_sim (place : Nat → Option (Nat × Nat)) : ∀ (parts : List (Nat × Value)) (ps : List (Nat × Nat)) (vs : List V) (cs cs' : List V) (C : List Value),
    parts.map (fun p => place p.1) = ps.map some → gams ι vs = some (parts.map (·.2)) → gams ι cs = some C → fillV cs ps vs = some cs' →
    ∃ C', Instr.fill place C.toArray parts = some C' ∧ gams ι cs' = some C'.toList
  | [], [], vs, cs, cs', C, _, hv, hc, hf => by
    have := gams_nil (by simpa using hv); subst this
    simp [fillV] at hf; subst hf
    exact ⟨C.toArray, by simp [Instr.fill], by simpa using hc⟩
  | [], p :: ps, vs, cs, cs', C, hp, _, _, _ => by simp at hp
  | p :: parts, [], vs, cs, cs', C, hp, _, _, _ => by simp at hp
  | (i, x) :: parts, (off, n) :: ps, vs, cs, cs', C, hp, hv, hc, hf => by
    simp only [List.map_cons, List.cons.injEq] at hp
    obtain ⟨hp1, hp2⟩ := hp
    obtain ⟨v, l, rfl, h1, h2⟩ := gams_uncons (by simpa using hv)
    unfold fillV at hf
    split at hf
    case h_2 => cases hf
    rename_i e1
    split at hf
    case h_2 => cases hf
    rename_i e2
    have e1 := Nat.eq_of_beq_eq_true e1
    have e2 := Nat.le_of_ble_eq_true e2
    have hcx := cells_gam h1
    have hl1 := gams_length hcx
    have hl2 := gams_length hc
    obtain ⟨C', r1, r2⟩ := fill_sim place parts ps l (listPut cs off v.cells) cs' (listPut C off x.cells.toList) hp2 h2 (gams_listPut hcx off hc) hf
    refine ⟨C', ?_, r2⟩
    unfold Instr.fill
    simp only [hp1]
    have hsz : x.cells.size = n := by rw [← e1, ← hl1]; simp
    rw [if_neg (by simp [hsz]; omega)]
    rw [← r1]
    congr 1
    apply Array.ext'
    rw [← Array.foldl_toList]
    simp only [Array.toList_zipIdx]
    rw [foldl_put]
    simp

/-- The zero of a type. -/
def zeroT (P : Program) (t : TypeId) : Option V := match P.info? t with
  | some i => match i.zero with
    | some z => cst z
    | none => none
  | none => none

theorem run_zeroT {t : TypeId} {v : V} (h : zeroT P t = some v) (w : World) : ∃ z, (zeroValue t).run P w = .ok z w ∧ gam ι v = some z := by
  unfold zeroT at h
  split at h
  · rename_i i hi
    split at h
    · rename_i z hz
      exact ⟨z, by simp [zeroValue, typeInfo, hi, hz], cst_gam h⟩
    · cases h
  · cases h

def sizeT (P : Program) (t : TypeId) : Option Nat := match P.info? t with
  | some i => some i.size
  | none => none

theorem run_sizeT {t : TypeId} {n : Nat} (h : sizeT P t = some n) (w : World) : (sizeOf t).run P w = .ok n w := by
  unfold sizeT at h
  split at h
  · rename_i i hi; cases h; simp [sizeOf, typeInfo, hi]
  · cases h

theorem cellsOf_sizeT {t : TypeId} {n : Nat} (h : sizeT P t = some n) : P.cellsOf t = n := by
  unfold sizeT at h
  split at h
  · rename_i i hi; cases h; simp [Program.cellsOf, hi]
  · cases h

def bytesT (P : Program) (t : TypeId) : Option Nat := match P.info? t with
  | some i => some i.bytes
  | none => none

def isAggT (P : Program) (t : TypeId) : Option Bool := match P.underlying t with
  | some (.struct _) => some true
  | some (.array _ _) => some true
  | some _ => some false
  | none => none

theorem run_isAggT {t : TypeId} {b : Bool} (h : isAggT P t = some b) (w : World) : (isAgg t).run P w = .ok b w := by
  unfold isAggT at h
  split at h
  · rename_i hu; cases h; simp [isAgg, run_underlying hu]
  · rename_i hu; cases h; simp [isAgg, run_underlying hu]
  · rename_i d hn1 hn2 hu
    cases h
    simp only [isAgg, Sem.run_bind, run_underlying hu, Result.andThen_ok]
    cases d <;> first
      | rfl
      | exact (hn1 _ rfl).elim
      | exact (hn2 _ _ rfl).elim
  · cases h

theorem run_part {t : TypeId} {b : Bool} {off n : Nat} {cs : List V} {C : List Value} {v : V} (ha : isAggT P t = some b) (hn : sizeT P t = some n) (hc : gams ι cs = some C)
    (hv : partV b off n cs = some v) (w : World) : ∃ x, (part t C.toArray off).run P w = .ok x w ∧ gam ι v = some x := by
  unfold partV at hv
  cases b with
  | true =>
    simp only at hv
    split at hv
    · rename_i l hl
      cases hv
      unfold listSub at hl
      split at hl
      · cases hl
        refine ⟨.agg (C.toArray.extract off (off + n)), ?_, ?_⟩
        · simp [part, run_isAggT ha, run_sizeT hn]
        · rw [gam, gams_take n (gams_drop off hc)]
          simp
      · cases hl
    · cases hv
  | false =>
    simp only at hv
    obtain ⟨x, hx, hg⟩ := gams_get hc hv
    exact ⟨x, by simp [part, run_isAggT ha, hx], hg⟩

/-! ### The operations, one by one -/

theorem s_mv {x : Operand} {o : Oper} (ho : o.op = .move x ∨ o.op = .assign x) (hx : gams ι vs = some [ρ x]) (hs : sem .mv vs σ = some out) (h : Rep P ι σ w) :
    OutSim P ι σ w out ((execOp ρ o).run P w) := by
  obtain ⟨v, rfl, hv⟩ := gams_one hx
  simp only [sem, Option.some.injEq] at hs
  subst hs
  refine .look (x := ρ x) ?_ hv h
  rcases ho with ho | ho <;> simp [execOp, ho]

theorem s_pick {c x y : Operand} {o : Oper} (ho : o.op = .pick c x y) (hx : gams ι vs = some [ρ c, ρ x, ρ y]) (hs : sem .pick vs σ = some out) (h : Rep P ι σ w) :
    OutSim P ι σ w out ((execOp ρ o).run P w) := by
  obtain ⟨b, u, v, rfl, h1, h2, h3⟩ := gams_three hx
  simp only [sem] at hs
  split at hs
  · rename_i b' u' v' e
    cases e
    cases hs
    have := gam_bool h1
    cases b'
    · exact .look (x := ρ y) (by simp [execOp, ho, this, asBool]) h3 h
    · exact .look (x := ρ x) (by simp [execOp, ho, this, asBool]) h2 h
  · cases hs

theorem s_alloc {t : TypeId} {z : V} {o : Oper} (ho : o.op = .alloc t) (hz : zeroT P t = some z) (hx : gams ι vs = some []) (hs : sem (.alloc t z.cells) vs σ = some out) (h : Rep P ι σ w) :
    OutSim P ι σ w out ((execOp ρ o).run P w) := by
  have := gams_nil hx; subst this
  simp only [sem, Option.some.injEq] at hs
  subst hs
  obtain ⟨zv, hr, hg⟩ := run_zeroT (ι := ι) hz w
  have hcz := cells_gam hg
  obtain ⟨hrep, hext⟩ := h.newRow (w' := { w with heap := w.heap.push (.cells zv.cells t) }) hcz t zv.cells 0 (by rw [← gams_length hcz]; simp) (fun k _ => by simp) rfl ⟨rfl, rfl⟩
  refine ⟨_, .pointer (some ⟨w.heap.size, 0, none⟩), { w with heap := w.heap.push (.cells zv.cells t) }, ?_, ?_, hrep, hext⟩
  · simp [execOp, ho, Instr.alloc, hr, newVar, newRow]
  · simp [gam, Inj.add]

theorem s_box {t : TypeId} {x : Operand} {o : Oper} (ho : o.op = .box t x) (hx : gams ι vs = some [ρ x]) (hs : sem (.box t) vs σ = some out) (h : Rep P ι σ w) :
    OutSim P ι σ w out ((execOp ρ o).run P w) := by
  obtain ⟨v, rfl, hv⟩ := gams_one hx
  simp only [sem, Option.some.injEq] at hs
  subst hs
  have hcz := cells_gam hv
  obtain ⟨hrep, hext⟩ := h.newRow (w' := { w with heap := w.heap.push (.cells (ρ x).cells t) }) hcz t (ρ x).cells 0 (by rw [← gams_length hcz]; simp) (fun k _ => by simp) rfl ⟨rfl, rfl⟩
  refine ⟨_, .pointer (some ⟨w.heap.size, 0, none⟩), { w with heap := w.heap.push (.cells (ρ x).cells t) }, ?_, ?_, hrep, hext⟩
  · simp [execOp, ho, Instr.box, newVar, newRow]
  · simp [gam, Inj.add]

/-- Where a part of a struct or an array lies. -/
def placeF (P : Program) (t : TypeId) : Option (Nat → Option (Nat × Nat)) := match P.underlying t with
  | some (.array _ e) => match P.info? e with
    | some i => some fun k => some (k * i.size, i.size)
    | none => none
  | some (.struct fields) => match fields.toList.mapM (fun f => (P.info? f.type).map fun i => (f.offset, i.size)) with
    | some places => some fun k => places.toArray[k]?
    | none => none
  | _ => none

def placesF (f : Nat → Option (Nat × Nat)) : List Nat → Option (List (Nat × Nat))
  | [] => some []
  | i :: l => match f i with
    | some p => match placesF f l with
      | some ps => some (p :: ps)
      | none => none
    | none => none

theorem placesF_map {f : Nat → Option (Nat × Nat)} : ∀ {l : List Nat} {ps : List (Nat × Nat)}, placesF f l = some ps → l.map f = ps.map some
  | [], ps, h => by simp [placesF] at h; subst h; rfl
  | i :: l, ps, h => by
    unfold placesF at h
    split at h
    · rename_i p h1
      split at h
      · rename_i ps' h2; cases h; simp [h1, placesF_map h2]
      · cases h
    · cases h

theorem built_of {t : TypeId} {z : V} {zv : Value} {f : Nat → Option (Nat × Nat)} (hz : zeroT P t = some z) (hr : (zeroValue t).run P w = .ok zv w) (hf : placeF P t = some f) (parts : List (Nat × Value)) :
    P.built t parts = Instr.fill f zv.cells parts := by
  unfold Program.built
  unfold zeroT at hz
  unfold placeF at hf
  cases hi : P.info? t with
  | none => rw [hi] at hz; cases hz
  | some it =>
    rw [hi] at hz
    cases hzz : it.zero with
    | none => simp [hzz] at hz
    | some zz =>
      have hzv : zz = zv := by
        have : (zeroValue t).run P w = .ok zz w := by simp [zeroValue, typeInfo, hi, hzz]
        rw [this] at hr; cases hr; rfl
      subst hzv
      cases hu : P.underlying t with
      | none => simp [hu] at hf
      | some d =>
        cases d <;> try (simp [hu] at hf; done)
        case array n e =>
          simp only [hu] at hf
          split at hf
          · rename_i i hie; cases hf; simp [hzz, hie]
          · cases hf
        case struct fields =>
          simp only [hu] at hf
          split at hf
          · rename_i places hp; cases hf; simp [hzz, hp]
          · cases hf

theorem listPut_app : ∀ (cells pre rest : List V), cells.length ≤ rest.length → listPut (pre ++ rest) pre.length cells = pre ++ cells ++ rest.drop cells.length
  | [], pre, rest, _ => by simp [listPut]
  | v :: vs, pre, [], h => by simp at h
  | v :: vs, pre, r :: rest, h => by
    simp only [listPut]
    have h1 : (pre ++ r :: rest).set pre.length v = (pre ++ [v]) ++ rest := by simp
    rw [h1]
    have := listPut_app vs (pre ++ [v]) rest (by simpa using h)
    simp only [List.length_append, List.length_cons, List.length_nil, Nat.zero_add] at this
    rw [this]
    simp

theorem fastF_eq : ∀ (ps : List (Nat × Nat)) (vs l pre rest : List V), fastF pre.length ps vs = some l → rest.length = l.length → fillV (pre ++ rest) ps vs = some (pre ++ l)
  | [], [], l, pre, rest, h, hl => by
    simp only [fastF, Option.some.injEq] at h
    subst h
    have : rest = [] := List.length_eq_zero_iff.1 hl
    subst this
    rfl
  | [], _ :: _, _, _, _, h, _ => by simp [fastF] at h
  | (o, n) :: ps, [], _, _, _, h, _ => by simp [fastF] at h
  | (o, n) :: ps, v :: vs, l, pre, rest, h, hl => by
    simp only [fastF] at h
    split at h
    case h_2 => cases h
    rename_i hb
    simp only [Bool.and_eq_true] at hb
    have e1 := Nat.eq_of_beq_eq_true hb.1
    have e2 := Nat.eq_of_beq_eq_true hb.2
    subst e1
    split at h
    case h_2 => cases h
    rename_i l' hl'
    cases h
    rw [List.length_append] at hl
    subst e2
    unfold fillV
    rw [hb.2]
    simp only
    rw [show Nat.ble (pre.length + v.cells.length) (pre ++ rest).length = true from Nat.ble_eq_true_of_le (by rw [List.length_append]; omega)]
    simp only
    rw [listPut_app v.cells pre rest (by omega)]
    have := fastF_eq ps vs l' (pre ++ v.cells) (rest.drop v.cells.length) (by rw [List.length_append]; exact hl') (by rw [List.length_drop]; omega)
    rw [this, List.append_assoc]

theorem fillW_eq (cs : List V) (ps : List (Nat × Nat)) (vs : List V) : fillW cs ps vs = fillV cs ps vs := by
  unfold fillW
  split
  · rename_i l h
    split
    · rename_i hb
      have := fastF_eq ps vs l [] cs h (Nat.eq_of_beq_eq_true hb).symm
      exact this.symm
    · rfl
  · rfl

theorem s_build {t : TypeId} {parts : Array (Nat × Operand)} {z : V} {ps : List (Nat × Nat)} {f : Nat → Option (Nat × Nat)} {o : Oper} (ho : o.op = .build t parts) (hz : zeroT P t = some z)
    (hf : placeF P t = some f) (hp : placesF f (parts.toList.map (·.1)) = some ps) (hx : gams ι vs = some ((parts.toList.map (·.2)).map ρ)) (hs : sem (.build z.cells ps) vs σ = some out) (h : Rep P ι σ w) :
    OutSim P ι σ w out ((execOp ρ o).run P w) := by
  simp only [sem, fillW_eq] at hs
  split at hs
  case h_2 => cases hs
  rename_i cs hfl
  cases hs
  obtain ⟨zv, hr, hg⟩ := run_zeroT (ι := ι) hz w
  have hmap : (parts.toList.map fun (i, x) => (i, ρ x)).map (fun p => f p.1) = ps.map some := by
    rw [← placesF_map hp]; simp [List.map_map, Function.comp_def]
  obtain ⟨C', r1, r2⟩ := fill_sim (ι := ι) f (parts.toList.map fun (i, x) => (i, ρ x)) ps vs z.cells cs _ hmap (by rw [hx]; simp [List.map_map, Function.comp_def]) (cells_gam hg) hfl
  have hb : P.built t (parts.map fun (i, x) => (i, ρ x)).toList = some C' := by
    rw [built_of hz hr hf, Array.toList_map, ← r1]
  refine .look (x := .agg C') ?_ (by rw [gam, r2]) h
  simp [execOp, ho, run_build w t _ _ hb]

theorem repeatL_get (zs : List V) (hz : 1 ≤ zs.length) : ∀ n, (repeatL zs n).length = n * zs.length ∧ ∀ k, k < n * zs.length → (repeatL zs n)[k]? = zs[k % zs.length]?
  | 0 => ⟨by simp [repeatL], fun k hk => by omega⟩
  | n + 1 => by
    obtain ⟨h1, h2⟩ := repeatL_get zs hz n
    refine ⟨by simp only [repeatL, List.length_append, h1, Nat.add_mul, Nat.one_mul]; omega, fun k hk => ?_⟩
    simp only [repeatL]
    rw [Nat.add_mul, Nat.one_mul] at hk
    by_cases c : k < zs.length
    · rw [List.getElem?_append_left c, Nat.mod_eq_of_lt c]
    · rw [List.getElem?_append_right (by omega), h2 _ (by omega)]
      rw [Nat.mod_eq_sub_mod (by omega : zs.length ≤ k)]

/-- The model's own way to write zeros in a row. -/
theorem zeros_gam {zs : List V} {Z : Array Value} (hz : gams ι zs = some Z.toList) (h1 : 1 ≤ zs.length) (n : Nat) :
    gams ι (repeatL zs n) = some ((Array.range (n * zs.length)).map fun i => Z[i % Z.size]!).toList := by
  obtain ⟨r1, r2⟩ := repeatL_get zs h1 n
  have hl : Z.size = zs.length := by rw [← gams_length hz]; simp
  refine gams_of (by simp [r1]) (fun k v hk => ?_)
  have hlt : k < n * zs.length := by
    rcases Nat.lt_or_ge k (n * zs.length) with h' | h'
    · exact h'
    · rw [List.getElem?_eq_none (by omega)] at hk; cases hk
  rw [r2 k hlt] at hk
  obtain ⟨x, hx, hg⟩ := gams_get hz hk
  refine ⟨x, ?_, hg⟩
  have hm : k % Z.size < Z.size := Nat.mod_lt _ (by omega)
  rw [← hl] at hx
  simp only [Array.getElem?_toList] at hx
  simp [hlt, hm] at hx ⊢
  exact hx

end Go.Den
end

section
/- More of the operations: loads, stores, arithmetic, conversions, slices, indexes. -/
namespace Go.Den

variable [Gh] {P : Program} {ι : Inj} {σ : St} {w : World} {ρ : Operand → Value} {vs : List V} {out : Out}

theorem s_bslice {t e : TypeId} {len : Nat} {parts : Array (Nat × Operand)} {z : V} {n : Nat} {ps : List (Nat × Nat)} {o : Oper} (ho : o.op = .buildSlice t len parts)
    (hu : P.underlying t = some (.slice e)) (hz : zeroT P e = some z) (hn : sizeT P e = some n) (hzn : z.cells.length = n) (hn1 : 1 ≤ n) (hbig : len * n ≤ 2 ^ 24)
    (hp : placesF (fun i => some (i * n, n)) (parts.toList.map (·.1)) = some ps) (hx : gams ι vs = some ((parts.toList.map (·.2)).map ρ))
    (hs : sem (.bslice e len (repeatL z.cells len) ps) vs σ = some out) (h : Rep P ι σ w) :
    OutSim P ι σ w out ((execOp ρ o).run P w) := by
  simp only [sem, fillW_eq] at hs
  split at hs
  case h_2 => cases hs
  rename_i cs hfl
  cases hs
  obtain ⟨zv, hr, hg⟩ := run_zeroT (ι := ι) hz w
  have hzc := zeros_gam (cells_gam hg) (by omega) len
  have hmap : (parts.toList.map fun (i, x) => (i, ρ x)).map (fun p => (fun i => some (i * n, n)) p.1) = ps.map some := by
    rw [← placesF_map hp]; simp [List.map_map, Function.comp_def]
  obtain ⟨C', r1, r2⟩ := fill_sim (ι := ι) (fun i => some (i * n, n)) (parts.toList.map fun (i, x) => (i, ρ x)) ps vs _ cs _ hmap (by rw [hx]; simp [List.map_map, Function.comp_def]) hzc hfl
  obtain ⟨hrep, hext⟩ := h.newRow (w' := { w with heap := w.heap.push (.cells C' e) }) r2 e C' 0 (by rw [← gams_length r2]; simp) (fun k _ => by simp) rfl ⟨rfl, rfl⟩
  refine ⟨_, .slice (some ⟨w.heap.size, 0, none⟩) len len, { w with heap := w.heap.push (.cells C' e) }, ?_, ?_, hrep, hext⟩
  · rw [hzn] at r1
    have r1' : Instr.fill (fun i => some (i * n, n)) ((Array.range (len * n)).map fun i => zv.cells[i % zv.cells.size]!) ((parts.map fun (i, x) => (i, ρ x)).toList) = some C' := by
      rw [← r1]; congr 1; simp
    simp only [execOp, ho, Instr.buildSlice, Sem.run_bind, run_underlying hu, Result.andThen_ok, run_sizeT hn]
    rw [if_neg (by omega)]
    by_cases h0 : len * n = 0
    · have hl0 : len = 0 := by
        rcases Nat.mul_eq_zero.1 h0 with h | h
        · exact h
        · omega
      subst hl0
      have e0 : (Array.range (0 * n)) = #[] := by rw [Nat.zero_mul]; rfl
      rw [e0] at r1'
      simp only [h0, if_true, Sem.run_pure, Result.andThen_ok, Sem.run_bind, e0]
      simp only [List.map_toArray, List.map_nil] at r1'
      have e1 : (Array.range 0) = #[] := rfl
      simp only [e1, List.map_toArray, List.map_nil]
      rw [r1']
      rfl
    · simp only [h0, if_false, Sem.run_bind, hr, Result.andThen_ok, Sem.run_pure]
      rw [r1']
      rfl
  · simp [gam, Inj.add, capO]

theorem s_load1 {t : TypeId} {x : Operand} {o : Oper} (ho : o.op = .load t x) (ha : isAggT P t = some false) (hx : gams ι vs = some [ρ x]) (hs : sem .load1 vs σ = some out) (h : Rep P ι σ w) :
    OutSim P ι σ w out ((execOp ρ o).run P w) := by
  obtain ⟨v, rfl, hv⟩ := gams_one hx
  simp only [sem] at hs
  split at hs
  case h_2 => cases hs
  rename_i i k e
  cases e
  obtain ⟨u, hu, rfl⟩ := val?_some hs
  obtain ⟨l, hl, hxe⟩ := gam_ptr hv
  obtain ⟨y, hy, hg⟩ := h.load hl hu
  refine .look (x := y) ?_ hg h
  simp [execOp, ho, Instr.loadAt, hxe, Instr.sureAddr, loadVar, run_isAggT ha, hy]

theorem s_loadN {t : TypeId} {n : Nat} {x : Operand} {o : Oper} (ho : o.op = .load t x) (ha : isAggT P t = some true) (hn : sizeT P t = some n) (hx : gams ι vs = some [ρ x])
    (hs : sem (.loadN n) vs σ = some out) (h : Rep P ι σ w) : OutSim P ι σ w out ((execOp ρ o).run P w) := by
  obtain ⟨v, rfl, hv⟩ := gams_one hx
  simp only [sem] at hs
  split at hs
  case h_2 => cases hs
  rename_i i k e
  cases e
  split at hs
  case h_2 => cases hs
  rename_i cs hcs
  cases hs
  obtain ⟨l, hl, hxe⟩ := gam_ptr hv
  obtain ⟨xs, hy, hg⟩ := h.loadN hl hcs
  refine .look (x := .agg xs.toArray) ?_ (by rw [gam, hg]) h
  simp [execOp, ho, Instr.loadAt, hxe, Instr.sureAddr, loadVar, run_isAggT ha, run_sizeT hn, hy]

theorem s_store {t : TypeId} {n : Nat} {x y : Operand} {o : Oper} (ho : o.op = .store t x y) (hn : sizeT P t = some n) (hx : gams ι vs = some [ρ x, ρ y])
    (hs : sem (.store n) vs σ = some out) (h : Rep P ι σ w) : OutSim P ι σ w out ((execOp ρ o).run P w) := by
  obtain ⟨a, v, rfl, ha, hv⟩ := gams_two hx
  simp only [sem] at hs
  split at hs
  case h_2 => cases hs
  rename_i i k v' e
  cases e
  split at hs
  case h_2 => cases hs
  rename_i hb1
  have hb1 := Nat.eq_of_beq_eq_true hb1
  split at hs
  case h_2 => cases hs
  rename_i τ hst
  cases hs
  obtain ⟨l, hl, hxe⟩ := gam_ptr ha
  have hc := cells_gam hv
  have hlen := gams_length hc
  obtain ⟨w', r1, r2, r3⟩ := h.storeN hl hst hc
  refine ⟨ι, w', ?_, r2, r3⟩
  have hsz : (ρ y).cells.size = n := by rw [← hb1, ← hlen]; simp
  simp [execOp, ho, Instr.storeAt, hxe, Instr.sureAddr, storeVar, run_sizeT hn, hsz, r1]

theorem s_nilCheck {x : Operand} {o : Oper} (ho : o.op = .nilCheck x) (hx : gams ι vs = some [ρ x]) (hs : sem .nilCheck vs σ = some out) (h : Rep P ι σ w) :
    OutSim P ι σ w out ((execOp ρ o).run P w) := by
  obtain ⟨v, rfl, hv⟩ := gams_one hx
  simp only [sem] at hs
  split at hs <;> try (cases hs; done)
  rename_i n1 n2 n3 n4
  cases hs
  refine .look (x := ρ x) ?_ hv h
  simp only [execOp, ho]
  cases v with
  | ptr a => cases a with
    | none => exact (n1 rfl).elim
    | some a => obtain ⟨i, k⟩ := a; obtain ⟨l, _, e⟩ := gam_ptr hv; simp [e]
  | nilIface => exact (n2 rfl).elim
  | nilFunc => exact (n3 rfl).elim
  | func fn f c =>
    obtain ⟨F, C, _, _, e⟩ := gam_func hv
    cases fn with
    | method m => exact (n4 _ _ _ rfl).elim
    | _ => simp [e]
  | bool b => simp [gam_bool hv]
  | int k n => simp [gam_int hv]
  | str s => simp [gam_str hv]
  | slice a n c op => cases a with
    | none => simp [(gam_slice_none hv).2]
    | some a => obtain ⟨i, k⟩ := a; obtain ⟨l, _, e⟩ := gam_slice hv; simp [e]
  | map a => cases a with
    | none => have : ρ x = .map none := by simpa [gam] using hv.symm
              simp [this]
    | some a => obtain ⟨l, _, e⟩ := gam_map hv; simp [e]
  | iface t v => obtain ⟨y, _, e⟩ := gam_iface hv; simp [e]
  | yld k => obtain ⟨l, _, e⟩ := gam_yld hv; simp [e]
  | agg cs => obtain ⟨L, _, e⟩ := gam_agg hv; simp [e]
  | tuple cs => obtain ⟨L, _, e⟩ := gam_tuple hv; simp [e]

/-! ### Numbers and texts -/

theorem eqB_eq : ∀ (a b : List UInt8), eqB a b = (a == b)
  | [], [] => rfl
  | [], _ :: _ => rfl
  | _ :: _, [] => rfl
  | a :: l, b :: m => by
    unfold eqB
    by_cases h : a = b
    · subst h
      have : Nat.beq a.toNat a.toNat = true := Nat.beq_refl _
      simp [this, eqB_eq l m]
    · have : Nat.beq a.toNat b.toNat = false := by
        rw [Bool.eq_false_iff]; intro hh; exact h (UInt8.toNat_inj.1 (Nat.eq_of_beq_eq_true hh))
      simp [this, h]

theorem ltB_eq : ∀ (a b : List UInt8), ltB a b = Op.bytesLess a b
  | _, [] => by unfold ltB Op.bytesLess; rfl
  | [], _ :: _ => by unfold ltB Op.bytesLess; rfl
  | a :: l, b :: m => by
    unfold ltB Op.bytesLess
    have hlt : Nat.blt a.toNat b.toNat = decide (a < b) := by
      rw [Bool.eq_iff_iff, Nat.blt_eq, decide_eq_true_iff, UInt8.lt_iff_toNat_lt]
    rw [hlt]
    by_cases h : a < b
    · simp [h]
    · by_cases h2 : a = b
      · subst h2
        have : Nat.beq a.toNat a.toNat = true := Nat.beq_refl _
        simp [this, ltB_eq l m]
      · have : Nat.beq a.toNat b.toNat = false := by
          rw [Bool.eq_false_iff]; intro hh; exact h2 (UInt8.toNat_inj.1 (Nat.eq_of_beq_eq_true hh))
        simp [this, h, h2]

theorem ba_toList (l : List UInt8) : (ByteArray.mk l.toArray).toList = l := ByteArray.toList_mk l

theorem strBin_sim {op : BinOp} {a b : List UInt8} {v : V} (h : strBin op a b = some v) (w : World) :
    ∃ x, (Op.stringOp op ⟨a.toArray⟩ ⟨b.toArray⟩).run P w = .ok x w ∧ gam ι v = some x := by
  have ha := ba_toList a
  have hb := ba_toList b
  cases op <;> simp only [strBin] at h
  case add =>
    split at h
    · rename_i hl
      cases h
      have hl : a.length + b.length < 4611686018427387904 := by simpa using hl
      refine ⟨.string (⟨a.toArray⟩ ++ ⟨b.toArray⟩), ?_, ?_⟩
      · unfold Op.stringOp
        simp only
        rw [if_neg]
        · rfl
        · have : (ByteArray.mk a.toArray).size = a.length := rfl
          have : (ByteArray.mk b.toArray).size = b.length := rfl
          simp only [*, IntKind.max, IntKind.signed, IntKind.bits, if_true]
          omega
      · rw [gam]
        congr 2
    · cases h
  all_goals first
    | (cases h; done)
    | (cases h
       refine ⟨_, ?_, by rw [gam]⟩
       simp only [Op.stringOp, ha, hb, eqB_eq, ltB_eq]
       rfl)

theorem gam_int' {k : IntKind} {n : Int} : gam ι (.int k n) = some (.int k n) := by simp [gam]
theorem gam_bool' {b : Bool} : gam ι (.bool b) = some (.bool b) := by simp [gam]
theorem gam_str' {s : List UInt8} : gam ι (.str s) = some (.string ⟨s.toArray⟩) := by simp [gam]

theorem s_bin {op : BinOp} {t u : TypeId} {x y : Operand} {o : Oper} (ho : o.op = .binOp op t x y u) (hx : gams ι vs = some [ρ x, ρ y]) (hs : sem (.bin op) vs σ = some out) (h : Rep P ι σ w) :
    OutSim P ι σ w out ((execOp ρ o).run P w) := by
  obtain ⟨a, b, rfl, ha, hb⟩ := gams_two hx
  simp only [sem] at hs
  obtain ⟨v, hv, rfl⟩ := val?_some hs
  suffices ∃ z, (do eqGuard op t x y (ρ x) (ρ y); binOp op t (ρ x) (ρ y)).run P w = .ok z w ∧ gam ι v = some z by
    obtain ⟨z, h1, h2⟩ := this
    refine .look (x := z) ?_ h2 h
    simp only [execOp, ho, Sem.run_bind] at h1 ⊢
    rw [h1]; rfl
  unfold binV at hv
  split at hv
  · rename_i k m k' n
    have ea := gam_int ha
    have eb := gam_int hb
    have hg : (eqGuard op t x y (ρ x) (ρ y)).run P w = .ok () w := by
      unfold eqGuard; rw [ea, eb]; split <;> rfl
    simp only [Sem.run_bind, hg, Result.andThen_ok, ea, eb]
    have hshift : ∀ {v}, shiftV op k m n = some v → ∃ z, (Op.shift op k m k' n).run P w = .ok z w ∧ gam ι v = some z := by
      intro v hv
      unfold shiftV at hv
      split at hv
      · cases hv
      · rename_i hn
        have hn : ¬ n < 0 := by simpa using hn
        split at hv
        · cases hv; exact ⟨_, by simp only [Op.shift, if_neg hn]; rfl, by rw [gam]⟩
        · cases hv; exact ⟨_, by simp only [Op.shift, if_neg hn]; rfl, by rw [gam]⟩
        · cases hv
    have hint : ∀ {v}, (match decide (k = k') with | true => intBin op k m n | false => none) = some v → (∀ z, op ≠ z ∨ z ≠ .shl ∧ z ≠ .shr) →
        ∃ z, (binOp op t (.int k m) (.int k' n)).run P w = .ok z w ∧ gam ι v = some z := by
      intro v' hq hop
      split at hq
      case h_2 => cases hq
      rename_i hk
      have hk : k = k' := by simpa using hk
      subst hk
      cases op <;> simp only [intBin] at hq
      case shl => exact absurd (hop .shl) (by simp)
      case shr => exact absurd (hop .shr) (by simp)
      case quo =>
        by_cases hn : n = 0
        · simp [hn] at hq
        · simp [hn] at hq
          subst hq
          exact ⟨_, by simp only [binOp, Op.intDiv, ne_eq, not_true_eq_false, if_false, if_neg hn]; rfl, gam_int'⟩
      case rem =>
        by_cases hn : n = 0
        · simp [hn] at hq
        · simp [hn] at hq
          subst hq
          exact ⟨_, by simp only [binOp, Op.intDiv, ne_eq, not_true_eq_false, if_false, if_neg hn]; rfl, gam_int'⟩
      all_goals
        cases hq
        first
          | exact ⟨_, by simp only [binOp, Op.intArith, Op.intBits, Op.intCmp, ne_eq, not_true_eq_false, if_false]; rfl, gam_int'⟩
          | exact ⟨_, by simp only [binOp, Op.intArith, Op.intBits, Op.intCmp, ne_eq, not_true_eq_false, if_false]; rfl, gam_bool'⟩
    cases op
    case shl => exact hshift hv
    case shr => exact hshift hv
    all_goals exact hint hv (fun z => by cases z <;> simp)
  · rename_i s1 s2
    have ea := gam_str ha
    have eb := gam_str hb
    have hg : (eqGuard op t x y (ρ x) (ρ y)).run P w = .ok () w := by
      unfold eqGuard; rw [ea, eb]; split <;> rfl
    simp only [Sem.run_bind, hg, Result.andThen_ok, ea, eb]
    obtain ⟨z, h1, h2⟩ := strBin_sim (P := P) (ι := ι) hv w
    exact ⟨z, by rw [← h1]; cases op <;> rfl, h2⟩
  · cases hv

theorem s_un {op : UnOp} {t : TypeId} {x : Operand} {o : Oper} (ho : o.op = .unOp op t x) (hx : gams ι vs = some [ρ x]) (hs : sem (.un op) vs σ = some out) (h : Rep P ι σ w) :
    OutSim P ι σ w out ((execOp ρ o).run P w) := by
  obtain ⟨a, rfl, ha⟩ := gams_one hx
  simp only [sem] at hs
  obtain ⟨v, hv, rfl⟩ := val?_some hs
  unfold unV at hv
  split at hv
  · cases hv
    have e := gam_int ha
    exact .look (x := _) (by simp only [execOp, ho, e, Op.unary, Op.intArith]; rfl) (by simp [gam]) h
  · cases hv
    have e := gam_int ha
    exact .look (x := _) (by simp only [execOp, ho, e, Op.unary, Op.intBits]; rfl) (by simp [gam]) h
  · cases hv
    have e := gam_bool ha
    exact .look (x := _) (by simp only [execOp, ho, e, Op.unary]; rfl) (by simp [gam]) h
  · cases hv

theorem s_toInt {k : IntKind} {s d : TypeId} {td : TypeDesc} {x : Operand} {o : Oper} (ho : o.op = .convert s d x) (hsrc : P.underlying s = some td) (hu : P.underlying d = some (.int k)) (hx : gams ι vs = some [ρ x]) (hs : sem (.toInt k) vs σ = some out) (h : Rep P ι σ w) :
    OutSim P ι σ w out ((execOp ρ o).run P w) := by
  obtain ⟨a, rfl, ha⟩ := gams_one hx
  simp only [sem] at hs
  split at hs
  case h_2 => cases hs
  rename_i k' n e
  cases e
  cases hs
  have e := gam_int ha
  refine .look (x := .int k (k.wrap n)) ?_ (by simp [gam]) h
  simp [execOp, ho, convert, e, run_underlying hu, run_underlying hsrc, Conv.intToInt]

theorem s_strId {s d : TypeId} {td : TypeDesc} {x : Operand} {o : Oper} (ho : o.op = .convert s d x) (hsrc : P.underlying s = some td) (hu : P.underlying d = some .string) (hx : gams ι vs = some [ρ x]) (hs : sem .strId vs σ = some out) (h : Rep P ι σ w) :
    OutSim P ι σ w out ((execOp ρ o).run P w) := by
  obtain ⟨a, rfl, ha⟩ := gams_one hx
  simp only [sem] at hs
  split at hs
  case h_2 => cases hs
  rename_i n e
  cases e
  cases hs
  have e := gam_str ha
  refine .look (x := ρ x) ?_ ha h
  simp [execOp, ho, convert, e, run_underlying hu, run_underlying hsrc]

theorem s_mkIface {t : TypeId} {td : TypeDesc} {x : Operand} {o : Oper} (ho : o.op = .makeInterface t x) (hu : P.underlying t = some td) (hni : ∀ ms, td ≠ .interface ms) (hx : gams ι vs = some [ρ x]) (hs : sem (.mkIface t) vs σ = some out) (h : Rep P ι σ w) :
    OutSim P ι σ w out ((execOp ρ o).run P w) := by
  obtain ⟨a, rfl, ha⟩ := gams_one hx
  simp only [sem, Option.some.injEq] at hs
  subst hs
  refine .look (x := .iface t (ρ x)) ?_ (by rw [gam, ha]) h
  simp only [execOp, ho, Instr.makeInterface, Sem.run_bind, run_underlying hu, Result.andThen_ok]
  cases td <;> first
    | exact (hni _ rfl).elim
    | rfl

theorem s_mkFunc {fn : Fn} {f c : Array Operand} {o : Oper} (ho : o.op = .makeFunc fn f c) (hx : gams ι vs = some ((f.toList ++ c.toList).map ρ)) (hs : sem (.mkFunc fn f.size) vs σ = some out) (h : Rep P ι σ w) :
    OutSim P ι σ w out ((execOp ρ o).run P w) := by
  simp only [sem, Option.some.injEq] at hs
  subst hs
  have h1 := gams_take f.size hx
  have h2 := gams_drop f.size hx
  rw [List.map_append] at h1 h2
  rw [List.take_left' (by simp)] at h1
  rw [List.drop_left' (by simp)] at h2
  have e1 : (f.toList.map ρ).toArray = f.map ρ := by apply Array.ext'; simp
  have e2 : (c.toList.map ρ).toArray = c.map ρ := by apply Array.ext'; simp
  refine .look (x := .func fn (f.map ρ) (c.map ρ)) ?_ (by rw [gam, h1, h2]; simp only [e1, e2]) h
  simp [execOp, ho, Instr.makeFunc]

theorem s_mkMap {t : TypeId} {r : Option Operand} {o : Oper} (ho : o.op = .makeMap t r) (hr : r = none) (hx : gams ι vs = some []) (hs : sem .mkMap vs σ = some out) (h : Rep P ι σ w) :
    OutSim P ι σ w out ((execOp ρ o).run P w) := by
  have := gams_nil hx; subst this
  subst hr
  simp only [sem, Option.some.injEq] at hs
  subst hs
  refine ⟨ι.add σ.next ⟨w.heap.size, 0, 0⟩, .map (some w.heap.size), { w with heap := w.heap.push (.map #[] 0) }, ?_, by simp [gam, Inj.add], ?_, Ext.alloc h _ _⟩
  · simp [execOp, ho, Instr.makeMap]
  · exact h.alloc _ _ 0 rfl ⟨rfl, rfl⟩ ⟨#[], by simp, by simp, fun o k v ho => by simp at ho⟩

theorem s_fieldAddr {s : TypeId} {x : Operand} {k : Nat} {fields : Array Field} {f : Field} {n : Nat} {o : Oper} (ho : o.op = .fieldAddr s x k) (hu : P.underlying s = some (.struct fields)) (hf : fields[k]? = some f)
    (hn : sizeT P f.type = some n) (hn0 : n ≠ 0) (hx : gams ι vs = some [ρ x]) (hs : sem (.fieldAddr f.offset) vs σ = some out) (h : Rep P ι σ w) :
    OutSim P ι σ w out ((execOp ρ o).run P w) := by
  obtain ⟨a, rfl, ha⟩ := gams_one hx
  simp only [sem] at hs
  split at hs
  case h_2 => cases hs
  rename_i i k' e
  cases e
  cases hs
  obtain ⟨l, hl, e⟩ := gam_ptr ha
  refine .look (x := .pointer (some ⟨l.b, l.off + (k' + f.offset), none⟩)) ?_ (by rw [gam, hl]) h
  simp [execOp, ho, Instr.fieldAt, run_underlying hu, hf, e, Instr.sureAddr, fieldPlace, run_sizeT hn, hn0, add_off, Nat.add_assoc]

theorem s_field {s : TypeId} {x : Operand} {k : Nat} {fields : Array Field} {f : Field} {n : Nat} {b : Bool} {o : Oper} (ho : o.op = .field s x k) (hu : P.underlying s = some (.struct fields)) (hf : fields[k]? = some f)
    (ha : isAggT P f.type = some b) (hn : sizeT P f.type = some n) (hx : gams ι vs = some [ρ x])
    (hs : sem (match b with | true => .fieldN f.offset n | false => .field1 f.offset) vs σ = some out) (h : Rep P ι σ w) :
    OutSim P ι σ w out ((execOp ρ o).run P w) := by
  obtain ⟨a, rfl, hg⟩ := gams_one hx
  have key : ∃ cs v, a = .agg cs ∧ partV b f.offset n cs = some v ∧ out = .val v σ := by
    cases b with
    | true =>
      simp only [sem] at hs
      split at hs
      case h_2 => cases hs
      rename_i cs e
      cases e
      obtain ⟨v, hv, rfl⟩ := val?_some hs
      exact ⟨cs, v, rfl, hv, rfl⟩
    | false =>
      simp only [sem] at hs
      split at hs
      case h_2 => cases hs
      rename_i cs e
      cases e
      obtain ⟨v, hv, rfl⟩ := val?_some hs
      exact ⟨cs, v, rfl, hv, rfl⟩
  obtain ⟨cs, v, rfl, hv, rfl⟩ := key
  obtain ⟨L, hL, e⟩ := gam_agg hg
  obtain ⟨y, h1, h2⟩ := run_part ha hn hL hv w
  refine .look (x := y) ?_ h2 h
  simp [execOp, ho, Instr.field, run_underlying hu, hf, e, asAgg, h1]

theorem s_extract {x : Operand} {k : Nat} {o : Oper} (ho : o.op = .extract x k) (hx : gams ι vs = some [ρ x]) (hs : sem (.extract k) vs σ = some out) (h : Rep P ι σ w) :
    OutSim P ι σ w out ((execOp ρ o).run P w) := by
  obtain ⟨a, rfl, hg⟩ := gams_one hx
  simp only [sem] at hs
  split at hs
  case h_2 => cases hs
  rename_i cs e
  cases e
  obtain ⟨v, hv, rfl⟩ := val?_some hs
  obtain ⟨L, hL, e⟩ := gam_tuple hg
  obtain ⟨y, h1, h2⟩ := gams_get hL hv
  refine .look (x := y) ?_ h2 h
  simp [execOp, ho, Instr.extract, e, h1]

end Go.Den
end

section
/- The rest of the operations: conversions of texts, slices, indexes, maps, calls, append, copy. -/
namespace Go.Den

variable [Gh] {P : Program} {ι : Inj} {σ : St} {w : World} {ρ : Operand → Value} {vs : List V} {out : Out}

theorem bnd_sim {v : V} {x : Value} {y n : Nat} (hg : gam ι v = some x) (h : bnd v y = some n) (m : Nat) (hm : y ≤ m) (c : BoundsCode) (w : World) : (Instr.sliceBound x m c).run P w = .ok n w ∧ n ≤ y := by
  unfold bnd at h
  split at h
  case h_2 => cases h
  rename_i k i
  split at h
  case h_2 => cases h
  rename_i hc
  have hc : 0 ≤ i ∧ i ≤ (y : Int) := by simpa using hc
  cases h
  rw [gam_int hg]
  have h2 : 0 ≤ i ∧ i ≤ (m : Int) := ⟨hc.1, by omega⟩
  exact ⟨by simp [Instr.sliceBound, asIntOf, h2], by omega⟩

/-- Which capacity counts. -/
def mxO (mx : Bool) (m c : Nat) : Nat := match mx with
  | true => m
  | false => c

/-- The operands behind the value: those that are told. -/
def optL (lo hi mx : Option Operand) : List Operand := lo.toList ++ hi.toList ++ mx.toList

theorem bounds_sim {isSlice : Bool} {len cap : Nat} {lo hi mx : Option Operand} {l h m : Nat} (hx : gams ι vs = some ((optL lo hi mx).map ρ)) (hb : bounds len cap lo.isSome hi.isSome mx.isSome vs = some (l, h, m))
    (capc : Nat) (hcap : cap ≤ capc) (w : World) :
    (Instr.sliceBounds isSlice len capc (lo.map ρ) (hi.map ρ) (mx.map ρ)).run P w = .ok (l, h, mxO mx.isSome m capc) w ∧ (mx = none → m = cap) := by
  unfold bounds at hb
  cases mx with
  | none =>
    cases hi with
    | none =>
      cases lo with
      | none =>
        have := gams_nil (by simpa [optL] using hx); subst this
        simp at hb
        obtain ⟨rfl, rfl, rfl⟩ := hb
        exact ⟨by simp [mxO, Instr.sliceBounds], fun _ => rfl⟩
      | some a =>
        obtain ⟨v, rfl, hv⟩ := gams_one (by simpa [optL] using hx)
        simp only [Option.isSome_some, Option.isSome_none] at hb
        split at hb
        case h_2 => cases hb
        rename_i l' hl
        cases hb
        obtain ⟨r, hle⟩ := bnd_sim (P := P) hv hl len (Nat.le_refl _) .sliceB w
        exact ⟨by simp [mxO, Instr.sliceBounds, r], fun _ => rfl⟩
    | some b =>
      cases lo with
      | none =>
        obtain ⟨v, rfl, hv⟩ := gams_one (by simpa [optL] using hx)
        simp only [Option.isSome_some, Option.isSome_none] at hb
        split at hb
        case h_2 => cases hb
        rename_i h' hh
        cases hb
        obtain ⟨r, hle⟩ := bnd_sim (P := P) hv hh capc hcap (if isSlice then .sliceAcap else .sliceAlen) w
        exact ⟨by simp [mxO, Instr.sliceBounds, r], fun _ => rfl⟩
      | some a =>
        obtain ⟨u, v, rfl, hu, hv⟩ := gams_two (by simpa [optL] using hx)
        simp only [Option.isSome_some, Option.isSome_none] at hb
        split at hb
        case h_2 => cases hb
        rename_i h' hh
        split at hb
        case h_2 => cases hb
        rename_i l' hl
        cases hb
        obtain ⟨r, hle⟩ := bnd_sim (P := P) hv hh capc hcap (if isSlice then .sliceAcap else .sliceAlen) w
        obtain ⟨r2, hle2⟩ := bnd_sim (P := P) hu hl h (Nat.le_refl _) .sliceB w
        exact ⟨by simp [mxO, Instr.sliceBounds, r, r2], fun _ => rfl⟩
  | some c =>
    cases hi with
    | none => cases lo <;> simp at hb
    | some b =>
      cases lo with
      | none =>
        obtain ⟨u, v, rfl, hu, hv⟩ := gams_two (by simpa [optL] using hx)
        simp only [Option.isSome_some, Option.isSome_none] at hb
        split at hb
        case h_2 => cases hb
        rename_i m' hm
        split at hb
        case h_2 => cases hb
        rename_i h' hh
        cases hb
        obtain ⟨r, hle⟩ := bnd_sim (P := P) hv hm capc hcap (if isSlice then .slice3Acap else .slice3Alen) w
        obtain ⟨r2, hle2⟩ := bnd_sim (P := P) hu hh m (Nat.le_refl _) .slice3B w
        exact ⟨by simp [mxO, Instr.sliceBounds, r, r2], fun e => by cases e⟩
      | some a =>
        obtain ⟨t, u, v, rfl, ht, hu, hv⟩ := gams_three (by simpa [optL] using hx)
        simp only [Option.isSome_some] at hb
        split at hb
        case h_2 => cases hb
        rename_i m' hm
        split at hb
        case h_2 => cases hb
        rename_i h' hh
        split at hb
        case h_2 => cases hb
        rename_i l' hl
        cases hb
        obtain ⟨r, hle⟩ := bnd_sim (P := P) hv hm capc hcap (if isSlice then .slice3Acap else .slice3Alen) w
        obtain ⟨r2, hle2⟩ := bnd_sim (P := P) hu hh m (Nat.le_refl _) .slice3B w
        obtain ⟨r3, hle3⟩ := bnd_sim (P := P) ht hl h (Nat.le_refl _) .slice3C w
        exact ⟨by simp [mxO, Instr.sliceBounds, r, r2, r3], fun e => by cases e⟩

theorem ba_size (s : List UInt8) : (ByteArray.mk s.toArray).size = s.length := rfl

theorem extract_list (s : List UInt8) (l h : Nat) : (ByteArray.mk s.toArray).extract l h = ⟨((s.take h).drop l).toArray⟩ := by
  apply ByteArray.ext
  apply Array.ext'
  simp [List.extract_eq_take_drop, List.drop_take]

theorem s_sliceStr {t : TypeId} {x : Operand} {lo hi : Option Operand} {o : Oper} (ho : o.op = .slice t x lo hi none) (hu : P.underlying t = some .string)
    (hx : gams ι vs = some (ρ x :: (optL lo hi none).map ρ)) (hs : sem (.sliceStr lo.isSome hi.isSome) vs σ = some out) (h : Rep P ι σ w) : OutSim P ι σ w out ((execOp ρ o).run P w) := by
  obtain ⟨v, us, rfl, hv, hus⟩ := gams_uncons hx
  simp only [sem] at hs
  split at hs
  case h_2 => cases hs
  rename_i s us' e
  cases e
  split at hs
  case h_2 => cases hs
  rename_i l h' m hb
  cases hs
  have e := gam_str hv
  obtain ⟨r, _⟩ := bounds_sim (P := P) (ρ := ρ) (isSlice := false) (mx := none) hus hb s.length (Nat.le_refl _) w
  refine .look (x := .string ((ByteArray.mk s.toArray).extract l h')) ?_ (by rw [gam, extract_list]) h
  simp only [Option.map_none] at r
  simp [execOp, ho, Instr.sliceAt, Instr.slice, run_underlying hu, e, ba_size, r]

theorem capO_le (op : Bool) (c sp : Nat) : c ≤ capO op c sp := by cases op <;> simp [capO]

theorem resl_sim {n : Nat} {a : Option (Nat × Nat)} {len cap : Nat} {opn mx : Bool} {l h m : Nat} {u : V} {A : Option Addr} {capc : Nat}
    (hg : gam ι (.slice a len cap opn) = some (.slice A len capc)) (hr : resl n a opn mx l h m = some u) (hm : mx = false → m = cap) :
    gam ι u = some (.slice (if mxO mx m capc = l then A else A.map (·.add (l * n))) (h - l) (mxO mx m capc - l)) := by
  cases a with
  | none =>
    obtain ⟨rfl, e⟩ := gam_slice_none hg
    cases e
    unfold resl at hr
    simp only [Bool.false_and, Option.some.injEq] at hr
    subst hr
    have e1 : addrR m l (l * n) none = none := by unfold addrR; split <;> rfl
    rw [e1, gam]
    cases mx with
    | true => by_cases c : m = l <;> simp [mxO, c]
    | false => by_cases c : m = l <;> simp [mxO, ← hm rfl, c]
  | some a =>
    obtain ⟨i, o⟩ := a
    obtain ⟨lc, hl, e⟩ := gam_slice hg
    cases e
    unfold resl at hr
    split at hr
    · rename_i hop
      cases hr
      have hmm : mxO mx m (capO opn cap lc.spare) = m := by
        cases mx with
        | true => rfl
        | false => cases opn <;> simp at hop; simp [capO, mxO, hm rfl]
      rw [hmm]
      by_cases c : m = l
      · subst c
        have : Nat.beq m m = true := Nat.beq_refl m
        simp [this, gam, hl, capO, addrR]
      · have : Nat.beq m l = false := by rw [Bool.eq_false_iff]; intro hh; exact c (Nat.eq_of_beq_eq_true hh)
        simp [this, gam, hl, capO, c, moved, add_off, Nat.add_assoc, addrR]
    · rename_i hop
      simp only [Bool.and_eq_true, Bool.not_eq_true'] at hop
      obtain ⟨rfl, rfl⟩ := hop
      have := hm rfl
      subst this
      split at hr
      · rename_i h0
        have h0 := Nat.eq_of_beq_eq_true h0
        subst h0
        cases hr
        simp [gam, hl, capO, add_off, mxO]
      · split at hr
        · rename_i hlt
          have hlt : l < m := by simpa using hlt
          cases hr
          have : ¬ (m + lc.spare = l) := by omega
          simp [gam, hl, capO, this, moved, add_off, Nat.add_assoc, mxO]
          omega
        · cases hr

theorem s_sliceSl {t e : TypeId} {n : Nat} {x : Operand} {lo hi mx : Option Operand} {o : Oper} (ho : o.op = .slice t x lo hi mx) (hu : P.underlying t = some (.slice e)) (hn : sizeT P e = some n)
    (hx : gams ι vs = some (ρ x :: (optL lo hi mx).map ρ)) (hs : sem (.sliceSl n lo.isSome hi.isSome mx.isSome) vs σ = some out) (h : Rep P ι σ w) : OutSim P ι σ w out ((execOp ρ o).run P w) := by
  obtain ⟨v, us, rfl, hv, hus⟩ := gams_uncons hx
  simp only [sem] at hs
  split at hs
  case h_2 => cases hs
  rename_i a len cap opn us' e
  cases e
  split at hs
  case h_2 => cases hs
  rename_i l h' m hb
  obtain ⟨u, hr, rfl⟩ := val?_some hs
  have key : ∃ A capc, ρ x = .slice A len capc ∧ cap ≤ capc := by
    cases a with
    | none => exact ⟨none, cap, (gam_slice_none hv).2, Nat.le_refl _⟩
    | some a => obtain ⟨i, k⟩ := a; obtain ⟨lc, _, e⟩ := gam_slice hv; exact ⟨_, _, e, capO_le _ _ _⟩
  obtain ⟨A, capc, e, hc⟩ := key
  obtain ⟨r, hm⟩ := bounds_sim (P := P) (ρ := ρ) (isSlice := true) hus hb capc hc w
  rw [e] at hv
  refine .look (x := _) ?_ (resl_sim hv hr (fun hmx => hm (by cases mx <;> simp_all))) h
  simp only [execOp, ho, Instr.sliceAt, Instr.slice, Sem.run_bind, run_underlying hu, Result.andThen_ok, e, r, run_sizeT hn, Sem.run_pure]
  all_goals (by_cases c : mxO mx.isSome m capc = l <;> simp [c])

theorem s_sliceArr {t e : TypeId} {k n : Nat} {x : Operand} {lo hi mx : Option Operand} {o : Oper} (ho : o.op = .slice t x lo hi mx) (hu : P.underlying t = some (.array k e)) (hn : sizeT P e = some n)
    (hx : gams ι vs = some (ρ x :: (optL lo hi mx).map ρ)) (hs : sem (.sliceArr k n lo.isSome hi.isSome mx.isSome) vs σ = some out) (h : Rep P ι σ w) : OutSim P ι σ w out ((execOp ρ o).run P w) := by
  obtain ⟨v, us, rfl, hv, hus⟩ := gams_uncons hx
  simp only [sem] at hs
  split at hs
  case h_2 => cases hs
  rename_i a us' e
  cases e
  split at hs
  case h_2 => cases hs
  rename_i l h' m hb
  obtain ⟨u, hr, rfl⟩ := val?_some hs
  obtain ⟨i, j⟩ := a
  obtain ⟨lc, hl, e⟩ := gam_ptr hv
  obtain ⟨r, hm⟩ := bounds_sim (P := P) (ρ := ρ) (isSlice := false) hus hb k (Nat.le_refl _) w
  have hg : gam ι (.slice (some (i, j)) k k false) = some (.slice (some ⟨lc.b, lc.off + j, none⟩) k k) := by simp [gam, hl, capO]
  refine .look (x := _) ?_ (resl_sim hg hr (fun hmx => hm (by cases mx <;> simp_all))) h
  simp only [execOp, ho, Instr.sliceAt, Sem.run_bind, run_underlying hu, Result.andThen_ok, e, Instr.sureAddr, Sem.run_pure, r, run_sizeT hn]
  all_goals (by_cases c : mxO mx.isSome m k = l <;> simp [c])

theorem s_ixAddrArr {t e : TypeId} {k n : Nat} {x i : Operand} {o : Oper} (ho : o.op = .indexAddr t x i) (hu : P.underlying t = some (.array k e)) (hn : sizeT P e = some n)
    (hx : gams ι vs = some [ρ x, ρ i]) (hs : sem (.ixAddrArr k n) vs σ = some out) (h : Rep P ι σ w) : OutSim P ι σ w out ((execOp ρ o).run P w) := by
  obtain ⟨a, b, rfl, ha, hb⟩ := gams_two hx
  simp only [sem] at hs
  split at hs
  case h_2 => cases hs
  rename_i bi bo kk j e
  cases e
  split at hs
  case h_2 => cases hs
  rename_i hc
  cases hs
  have hc : 0 ≤ j ∧ j < (k : Int) := by simpa using hc
  obtain ⟨l, hl, e⟩ := gam_ptr ha
  have e2 := gam_int hb
  refine .look (x := .pointer (some ⟨l.b, l.off + (bo + j.toNat * n), none⟩)) ?_ (by rw [gam, hl]) h
  simp [execOp, ho, Instr.indexAt, e2, asIntOf, run_underlying hu, e, Instr.sureAddr, hc, run_sizeT hn, add_off, Nat.add_assoc]

theorem s_ixAddrSl {t e : TypeId} {n : Nat} {x i : Operand} {o : Oper} (ho : o.op = .indexAddr t x i) (hu : P.underlying t = some (.slice e)) (hn : sizeT P e = some n)
    (hx : gams ι vs = some [ρ x, ρ i]) (hs : sem (.ixAddrSl n) vs σ = some out) (h : Rep P ι σ w) : OutSim P ι σ w out ((execOp ρ o).run P w) := by
  obtain ⟨a, b, rfl, ha, hb⟩ := gams_two hx
  simp only [sem] at hs
  split at hs
  case h_2 => cases hs
  rename_i bi bo len cap opn kk j e
  cases e
  split at hs
  case h_2 => cases hs
  rename_i hc
  cases hs
  have hc : 0 ≤ j ∧ j < (len : Int) := by simpa using hc
  obtain ⟨l, hl, e⟩ := gam_slice ha
  have e2 := gam_int hb
  refine .look (x := .pointer (some ⟨l.b, l.off + (bo + j.toNat * n), none⟩)) ?_ (by rw [gam, hl]) h
  simp [execOp, ho, Instr.indexAt, e2, asIntOf, run_underlying hu, e, hc, run_sizeT hn, add_off, Nat.add_assoc]

theorem s_ixArr {t e : TypeId} {k n : Nat} {b : Bool} {x i : Operand} {o : Oper} (ho : o.op = .index t x i) (hu : P.underlying t = some (.array k e)) (hn : sizeT P e = some n) (hag : isAggT P e = some b) (hb1 : b = false → n = 1)
    (hx : gams ι vs = some [ρ x, ρ i]) (hs : sem (match b with | true => .ixArrN k n | false => .ixArr1 k) vs σ = some out) (h : Rep P ι σ w) : OutSim P ι σ w out ((execOp ρ o).run P w) := by
  obtain ⟨a, c, rfl, ha, hc⟩ := gams_two hx
  have key : ∃ cs kk j v, a = .agg cs ∧ c = .int kk j ∧ (0 ≤ j ∧ j < (k : Int)) ∧ partV b (j.toNat * n) n cs = some v ∧ out = .val v σ := by
    cases b with
    | true =>
      simp only [sem] at hs
      split at hs
      case h_2 => cases hs
      rename_i cs kk j e
      cases e
      split at hs
      case h_2 => cases hs
      rename_i hj
      obtain ⟨v, hv, rfl⟩ := val?_some hs
      exact ⟨cs, kk, j, v, rfl, rfl, by simpa using hj, hv, rfl⟩
    | false =>
      simp only [sem] at hs
      split at hs
      case h_2 => cases hs
      rename_i cs kk j e
      cases e
      split at hs
      case h_2 => cases hs
      rename_i hj
      obtain ⟨v, hv, rfl⟩ := val?_some hs
      have := hb1 rfl
      subst this
      exact ⟨cs, kk, j, v, rfl, rfl, by simpa using hj, by rw [Nat.mul_one]; exact hv, rfl⟩
  obtain ⟨cs, kk, j, v, rfl, rfl, hj, hv, rfl⟩ := key
  obtain ⟨L, hL, e⟩ := gam_agg ha
  have e2 := gam_int hc
  obtain ⟨y, h1, h2⟩ := run_part hag hn hL hv w
  refine .look (x := y) ?_ h2 h
  simp [execOp, ho, Instr.index, e2, asIntOf, run_underlying hu, e, hj, run_sizeT hn, h1]

theorem s_ixStr {t : TypeId} {x i : Operand} {o : Oper} (ho : o.op = .index t x i) (hu : P.underlying t = some .string)
    (hx : gams ι vs = some [ρ x, ρ i]) (hs : sem .ixStr vs σ = some out) (h : Rep P ι σ w) : OutSim P ι σ w out ((execOp ρ o).run P w) := by
  obtain ⟨a, b, rfl, ha, hb⟩ := gams_two hx
  simp only [sem] at hs
  split at hs
  case h_2 => cases hs
  rename_i s kk j e
  cases e
  split at hs
  case h_2 => cases hs
  rename_i hj
  have hj : 0 ≤ j := by simpa using hj
  split at hs
  case h_2 => cases hs
  rename_i c hc
  cases hs
  have e := gam_str ha
  have e2 := gam_int hb
  have hget : (ByteArray.mk s.toArray)[j.toNat]? = some c := by
    have hlt : j.toNat < s.length := (List.getElem?_eq_some_iff.1 hc).1
    have hlt' : j.toNat < (ByteArray.mk s.toArray).size := hlt
    rw [getElem?_pos (ByteArray.mk s.toArray) j.toNat hlt']
    rw [List.getElem?_eq_getElem hlt] at hc
    exact hc
  refine .look (x := .int .u8 c.toNat) ?_ gam_int' h
  simp [execOp, ho, Instr.index, e2, asIntOf, run_underlying hu, e, hj, hget]

end Go.Den
end
