/- Part DenC: an interpreter of the program's operations over abstract memory, its laws, and what it tells of the statement. No condition. -/
import Derived.Sort.LoopGhostIn
import Derived.RangeFuncRecord
import Derived.Scope
import Derived.Recover
import Derived.Laws.Sem
import Derived.Test.YtnjpahkdlffpcaaGreatDoorDenB
set_option linter.unusedVariables false
set_option linter.unusedSimpArgs false
set_option linter.unusedSectionVars false
section
/- A region in the order of its text. -/
namespace Go.Den

variable [Gh] {P : Program}

def XRel (ι : Inj) : X → Exit → Prop
  | .nrm, .normal => True
  | .exit i, .exit j => i = j
  | .ret, .ret => True
  | .pan ch, .panic c => ChRel ι ch c
  | _, _ => False

/-- What a piece of code leaves. -/
def Post (P : Program) (ι : Inj) (σ : St) (N : Nat) (f : Fin) (x : Exit) (a : Act) (w : World) : Prop :=
  ∃ κ, Ext ι κ σ f.s ∧ Rep P κ f.s w ∧ AR κ N f.e f.d a ∧ XRel κ f.x x

theorem Post.pre {ι κ : Inj} {σ τ : St} {N : Nat} {f : Fin} {x : Exit} {a : Act} {w : World} (h : Ext ι κ σ τ) : Post P κ τ N f x a w → Post P ι σ N f x a w :=
  fun ⟨μ, h1, h2⟩ => ⟨μ, h.trans h1, h2⟩

theorem gam_undef (ι : Inj) : gam ι undefV = some undef := by simp [undefV, gam, gams, undef]

theorem compIO_dst {tabs : String → List Nat} {N : Nat} {ops : Array Oper} {o : Oper} {x : Ins} (h : compIO P tabs N ops o = some x) :
    x.dst = o.dst ∧ (∀ t, o.dst = some t → t < N) ∧ compG ops N o.guard = some x.guard := by
  unfold compIO at h
  split at h
  case h_2 => cases h
  split at h
  case h_2 => cases h
  rename_i as g dd hxs hg hdst
  cases h
  obtain ⟨h1, h2⟩ := compD_spec hdst
  exact ⟨h1, h2, hg⟩

theorem DRel.cons {ι : Inj} {fn : Fn} {cap args : List V} {d : D} {ds : List Deferred} {c g : List Value} (h : DRel ι d ds) (hn : ∀ i, fn ≠ .yield i) (h1 : gams ι cap = some c) (h2 : gams ι args = some g) :
    DRel ι ((fn, cap, args) :: d) ({ target := .fn fn c.toArray, args := g.toArray } :: ds) := ⟨.inl ⟨hn, c, g, rfl, h1, h2⟩, h⟩

theorem AR.defer {ι : Inj} {N : Nat} {e : E} {d : D} {a : Act} (r : AR ι N e d a) {fn : Fn} {cap args : List V} {c g : List Value} (hn : ∀ i, fn ≠ .yield i) (h1 : gams ι cap = some c) (h2 : gams ι args = some g) :
    AR ι N e ((fn, cap, args) :: d) { a with defers := { target := .fn fn c.toArray, args := g.toArray } :: a.defers } := ⟨r.size, r.env, r.dfr.cons hn h1 h2⟩

theorem LetsOut.mono {Q Q' : Exit → Act → World → Prop} (h : ∀ x a w, Q x a w → Q' x a w) : LetsOut Q → LetsOut Q' := fun ⟨a, w, q⟩ => ⟨a, w, h _ _ _ q⟩

theorem Oper.wpIn_monoQ {F : Fence} {n : Nat} {o : Oper} {a : Act} {w : World} {K K' : Act → World → Prop} {Q Q' : Exit → Act → World → Prop} (h : ∀ a w, K a w → K' a w) (hQ : ∀ x a w, Q x a w → Q' x a w)
    (hh : o.wpIn F n P a w K Q) : o.wpIn F n P a w K' Q' := by
  unfold Oper.wpIn at *
  refine ⟨hh.1, ?_⟩
  have hh := hh.2
  generalize (o.semAt F.round a.eval).run P w = r at *
  cases r with
  | ok n w' =>
    cases n <;> simp only [Oper.uponIn] at hh ⊢ <;>
      first
        | exact h _ _ hh
        | exact ⟨hh.1, CallsIn.mono hh.2 (fun e w'' he => by
            cases e <;> first
              | exact h _ _ he
              | exact hQ _ _ _ he
              | exact LetsOut.mono hQ he)⟩
        | exact ⟨hh.1, RowsIn.mono hh.2 (fun _ _ he => h _ _ he)⟩
        | exact ⟨hh.1, RoundIn.mono hh.2 (fun e w'' he => by
            cases e <;> first
              | exact h _ _ he
              | exact hQ _ _ _ he
              | exact LetsOut.mono hQ he)⟩
        | exact hh
  | halt x w' => cases x <;> simp only [Oper.uponIn] at hh ⊢ <;> first
    | exact hQ _ _ _ hh
    | exact hh

theorem wpOpsIn_mono {F : Fence} {n : Nat} {ops : Array Oper} {Q Q' : Exit → Act → World → Prop} (hQ : ∀ x a w, Q x a w → Q' x a w) : ∀ {l : List Nat} {a : Act} {w : World}, wpOpsIn F n P ops Q l a w → wpOpsIn F n P ops Q' l a w
  | [], _, _, h => hQ _ _ _ h
  | i :: l, a, w, h => by
    simp only [wpOpsIn] at h ⊢
    split
    · rename_i hn; simp only [hn] at h; exact wpOpsIn_mono hQ h
    · rename_i o ho
      simp only [ho] at h
      split
      · rename_i hw
        simp only [hw, if_true] at h
        exact Oper.wpIn_monoQ (fun _ _ q => wpOpsIn_mono hQ q) hQ h
      · rename_i hw
        simp only [hw] at h
        exact ⟨h.1, wpOpsIn_mono hQ h.2⟩

theorem noDfrI_ne {o : Ins} (h : noDfrI o = true) : o.h ≠ .defer := fun e => by simp [noDfrI, e] at h

theorem ops_sim {F : Fence} (hF : FOk F) {m : Nat} {call : Call} (hcall : CallOK P call) {tabs : String → List Nat} {N : Nat} {ops : Array Oper} : ∀ (n : Nat) {i : Nat}, i + n = ops.size → ∀ {xs : List Ins} {ι : Inj} {e : E} {d : D} {σ : St} {f : Fin} {a : Act} {w : World},
    compOps P tabs N ops (ops.toList.drop i) = some xs → (F.round = none ∨ xs.all noDfrI = true) → Den.ops call xs e d σ = some f → AR ι N e d a → Rep P ι σ w →
    wpOpsIn F m P ops (Post P ι σ N f) (List.range' i n) a w := by
  intro n
  induction n with
  | zero =>
    intro i hi xs ι e d σ f a w hc hnd hr har hrep
    have : ops.toList.drop i = [] := List.drop_eq_nil_of_le (by simp; omega)
    rw [this] at hc
    cases hc
    cases hr
    exact ⟨ι, Ext.refl ι σ, hrep, har, trivial⟩
  | succ n ih =>
    intro i hi xs ι e d σ f a w hc hnd hr har hrep
    have hlt : i < ops.size := by omega
    have hdrop : ops.toList.drop i = ops[i] :: ops.toList.drop (i + 1) := by
      rw [List.drop_eq_getElem_cons (by simpa using hlt)]
      simp
    rw [hdrop, compOps] at hc
    split at hc
    case h_2 => cases hc
    rename_i x hx
    split at hc
    case h_2 => cases hc
    rename_i xs' hxs
    cases hc
    have hnx : F.round = none ∨ x.h ≠ .defer := hnd.imp id fun h => by simp only [List.all_cons, Bool.and_eq_true] at h; exact noDfrI_ne h.1
    have hnr : F.round = none ∨ xs'.all noDfrI = true := hnd.imp id fun h => by simp only [List.all_cons, Bool.and_eq_true] at h; exact h.2
    have hsome : ops[i]? = some ops[i] := by simp [hlt]
    obtain ⟨hd1, hd2, hg⟩ := compIO_dst hx
    rw [List.range'_succ, wpOpsIn_cons, wpOpIn, hsome]
    simp only [Den.ops] at hr
    have go : ∀ {κ : Inj} {e' : E} {d' : D} {τ : St} {a' : Act} {w' : World}, Ext ι κ σ τ → Rep P κ τ w' → AR κ N e' d' a' → Den.ops call xs' e' d' τ = some f →
        wpOpsIn F m P ops (Post P ι σ N f) (List.range' (i + 1) n) a' w' := by
      intro κ e' d' τ a' w' he hrep' har' hr'
      have := ih (i := i + 1) (by omega) hxs hnr hr' har' hrep'
      -- the postcondition's start
      exact wpOpsIn_mono (fun x a w h => Post.pre he h) this
    split at hr
    · cases hr
    · rename_i hw
      simp only [wanted_sim hg har hw]
      exact ⟨fun f _ => hF.fn f, go (Ext.refl ι σ) hrep (hd1 ▸ har.put (fun t ht => hd2 t (hd1 ▸ ht)) (gam_undef ι)) hr⟩
    · rename_i hw
      simp only [wanted_sim hg har hw, if_true]
      split at hr
      · cases hr
      · rename_i v τ hs
        refine step_sim (d := d) hF hcall hx hnx (har.ra hrep) hrep hs _ _ fun κ y w' h1 h2 h3 => ?_
        exact go h1 h2 (hd1 ▸ (har.mono h1.le).put (fun t ht => hd2 t (hd1 ▸ ht)) h3) hr
      · rename_i ch τ hs
        cases hr
        refine step_sim (d := d) hF hcall hx hnx (har.ra hrep) hrep hs _ _ fun κ c w' h1 h2 h3 => ?_
        exact ⟨κ, h1, h2, har.mono h1.le, h3⟩
      · rename_i fn cap args τ hs
        refine step_sim (d := d) hF hcall hx hnx (har.ra hrep) hrep hs _ _ ?_
        rintro rfl c g h1 h2
        exact go (Ext.refl ι _) hrep (hd1 ▸ (har.defer (step_dfr_fn hs) h1 h2).put (fun t ht => hd2 t (hd1 ▸ ht)) (gam_undef ι)) hr

end Go.Den
end

section
/- A region that draws its order: the parts. -/
namespace Go.Den

variable [Gh] {P : Program}

mutual
theorem beqV_eq : ∀ {a b : V}, beqV a b = true → a = b
  | .bool a, b, h => by cases b <;> simp [beqV] at h; rw [h]
  | .int k a, b, h => by cases b <;> simp [beqV] at h; rw [h.1, h.2]
  | .str a, b, h => by cases b <;> simp only [beqV] at h <;> first | cases h | (rw [eqB_eq] at h; rw [eq_of_beq h])
  | .ptr a, b, h => by cases b <;> simp [beqV] at h; rw [h]
  | .slice a n c op, b, h => by
    cases b <;> simp [beqV] at h
    obtain ⟨⟨⟨h1, h2⟩, h3⟩, h4⟩ := h
    rw [h1, h2, h3, h4]
  | .map a, b, h => by cases b <;> simp [beqV] at h; rw [h]
  | .func fn f c, b, h => by
    cases b <;> simp [beqV] at h
    obtain ⟨⟨h1, h2⟩, h3⟩ := h
    rw [h1, beqVs_eq h2, beqVs_eq h3]
  | .nilFunc, b, h => by cases b <;> simp [beqV] at h; rfl
  | .iface t v, b, h => by
    cases b <;> simp [beqV] at h
    rw [h.1, beqV_eq h.2]
  | .nilIface, b, h => by cases b <;> simp [beqV] at h; rfl
  | .agg a, b, h => by cases b <;> simp only [beqV] at h <;> first | cases h | rw [beqVs_eq h]
  | .tuple a, b, h => by cases b <;> simp only [beqV] at h <;> first | cases h | rw [beqVs_eq h]
  | .yld a, b, h => by cases b <;> simp [beqV] at h; rw [h]
theorem beqVs_eq : ∀ {a b : List V}, beqVs a b = true → a = b
  | [], b, h => by cases b <;> simp [beqVs] at h; rfl
  | v :: l, b, h => by
    cases b with
    | nil => simp [beqVs] at h
    | cons u m =>
      simp only [beqVs, Bool.and_eq_true] at h
      rw [beqV_eq h.1, beqVs_eq h.2]
end

theorem val?_st {σ τ : St} {x : Option V} {v : V} (h : val? σ x = some (.val v τ)) : τ = σ := by
  cases x <;> simp [val?] at h
  exact h.2.symm

theorem sem_look {h : H} {vs : List V} {σ τ : St} {v : V} (hc : h.cls = .look) (hs : sem h vs σ = some (.val v τ)) : τ = σ := by
  cases h <;> simp only [H.cls] at hc <;> try cases hc
  all_goals (simp only [sem] at hs; (repeat' (split at hs)) <;> first | (cases hs; done) | (cases hs; rfl) | exact val?_st hs | skip)

theorem cls_alloc {h : H} (hc : h.cls = .alloc) : ∃ e zs, h = .alloc e zs := by
  cases h <;> simp only [H.cls] at hc <;> try cases hc
  exact ⟨_, _, rfl⟩

set_option maxHeartbeats 2000000 in
theorem compH_alloc {tabs : String → List Nat} {o : Oper} {e : Nat} {zs : List V} {xs : List Operand} (h : compH P tabs o = some (.alloc e zs, xs)) :
    ∃ z, o.op = .alloc e ∧ zeroT P e = some z ∧ zs = z.cells ∧ xs = [] := by
  unfold compH at h
  split at h
  case h_4 t ho =>
    split at h
    · rename_i z hz; cases h; exact ⟨z, ho, hz, rfl, rfl⟩
    · cases h
  all_goals ((try simp only [one, compH.mapUpdC, compH.builtinC] at h); (repeat' (split at h)) <;> cases h)

/-- A block that is there already comes into being. -/
theorem Rep.wake {ι : Inj} {σ : St} {w w' : World} (h : Rep P ι σ w) {n : Nat} (hn : ι n = none) (hlt : n < σ.next) {vs : List V} {xs : List Value} {e : TypeId} {C : Array Value} (hh : w'.heap = w.heap.push (.cells C e)) (hs : Sm w w')
    (hb : σ.at n = some (.row vs e 0 0 false)) (hx : gams ι vs = some xs) (hsz : vs.length ≤ C.size) (hC : ∀ k, k < xs.length → C[k]? = xs[k]?) :
    Rep P (ι.add n ⟨w.heap.size, 0, 0⟩) σ w' := by
  have hle : ι.le (ι.add n ⟨w.heap.size, 0, 0⟩) := Inj.le_add hn
  have hown : ∀ {i l o'}, ι.add n ⟨w.heap.size, 0, 0⟩ i = some l → σ.at i = some o' → o'.rw = true → Gh.pub l.b := by
    intro i l o' hi ho hr
    by_cases e : i = n
    · subst e; rw [Inj.add_self] at hi; cases hi; exact Gh.fresh h.kept (Nat.le_refl _)
    · rw [Inj.add_ne e] at hi; exact h.own hi ho hr
  have horg : ∀ {i l cs e}, ι.add n ⟨w.heap.size, 0, 0⟩ i = some l → σ.at i = some (.row cs e 0 0 false) → l.off = 0 := by
    intro i l cs e' hi ho
    by_cases e : i = n
    · subst e; rw [Inj.add_self] at hi; cases hi; rfl
    · rw [Inj.add_ne e] at hi; exact h.org hi ho
  refine ⟨?_, ?_, keep_push h.kept hh hs (fun _ _ => rfl), hown, h.fixd, fun {_ _} hi => h.locd_le hle hi, horg, ?_, ?_⟩
  · intro i l hi
    by_cases e' : i = n
    · subst e'; exact hlt
    · rw [Inj.add_ne e'] at hi; exact h.low hi
  · intro i l b' hi hb'
    by_cases e' : i = n
    · subst e'
      rw [Inj.add_self] at hi; cases hi
      rw [hb] at hb'; cases hb'
      refine ⟨C, (0, 0), by rw [hh]; simp, by simpa using hsz, fun o v ho => ?_, fun _ o a b c => absurd b (Nat.not_lt_zero _)⟩
      obtain ⟨x, hx1, hx2⟩ := gams_get hx ho
      have hlt : o < xs.length := (List.getElem?_eq_some_iff.1 hx1).1
      exact ⟨x, by rw [Nat.zero_add, hC o hlt]; exact hx1, gam_mono hle v hx2⟩
    · rw [Inj.add_ne e'] at hi
      have hh' := h.obj hi hb'
      have hlt := hh'.lt
      exact (hh'.mono hle).heap (by rw [hh, Array.getElem?_push_lt hlt, Array.getElem?_eq_getElem hlt])
  · intro i j l m oi oj hi hj hoi hoj hne hrw
    by_cases e1 : i = n
    · subst e1
      rw [Inj.add_self] at hi; cases hi
      have e2 : j ≠ i := fun e' => hne e'.symm
      rw [Inj.add_ne e2] at hj
      have := (h.obj hj hoj).lt
      exact fun e'' => by rw [← e''] at this; exact absurd this (Nat.lt_irrefl _)
    · rw [Inj.add_ne e1] at hi
      by_cases e2 : j = n
      · subst e2
        rw [Inj.add_self] at hj; cases hj
        have := (h.obj hi hoi).lt
        exact fun e'' => by rw [e''] at this; exact absurd this (Nat.lt_irrefl _)
      · rw [Inj.add_ne e2] at hj
        exact h.inj hi hj hoi hoj hne hrw
  · intro g hg
    have := h.glob g hg
    have hne : g ≠ n := by intro e'; rw [e', hn] at this; cases this
    rw [Inj.add_ne hne]; exact this

/-- Making a block at the model: the block that is there already comes into being. -/
theorem alloc_wake {tabs : String → List Nat} {o : Oper} {t : Nat} {zs : List V} {xs : List Operand} (hc : compH P tabs o = some (.alloc t zs, xs)) {ρ : Operand → Value} {ι : Inj} {σ : St} {w : World} (h : Rep P ι σ w)
    {n : Nat} (hn : ι n = none) (hlt : n < σ.next) (hb : σ.at n = some (.row zs t 0 0 false)) :
    ∃ l w', (execOp ρ o).run P w = .ok (.value (.pointer (some ⟨l.b, l.off, none⟩))) w' ∧ Rep P (ι.add n l) σ w' ∧ gam (ι.add n l) (.ptr (some (n, 0))) = some (.pointer (some ⟨l.b, l.off, none⟩)) := by
  obtain ⟨z, ho, hz, rfl, rfl⟩ := compH_alloc hc
  obtain ⟨zv, hr, hg⟩ := run_zeroT (ι := ι) hz w
  have hcz := cells_gam hg
  refine ⟨⟨w.heap.size, 0, 0⟩, { w with heap := w.heap.push (.cells zv.cells t) }, ?_, h.wake hn hlt rfl ⟨rfl, rfl⟩ hb hcz (by rw [← gams_length hcz]; simp) (fun k _ => by simp), ?_⟩
  · simp [execOp, ho, Instr.alloc, hr, newVar, newRow]
  · simp [gam, Inj.add]

/-! ### Temporaries of a region whose operations are done in part -/

/-- 'p': which ones are done. -/
def envSel (p : Nat → Bool) : Nat → E → List DO → List V → E
  | k, e, x :: l, v :: vs => envSel p (k + 1) (match p k with | true => e.put x.o.dst v | false => e) l vs
  | _, e, _, _ => e

theorem E.get_put {e : E} {d : Option Nat} {v : V} {t : Nat} : E.get (e.put d v) t = if d = some t then some v else E.get e t := by
  cases d with
  | none => simp [E.put]
  | some d =>
    simp only [E.put, E.get]
    by_cases h : d = t
    · subst h; simp [Nat.beq_refl]
    · have : Nat.beq d t = false := by
        cases hb : Nat.beq d t with
        | false => rfl
        | true => exact absurd (Nat.eq_of_beq_eq_true hb) h
      rw [this]; simp [h]

/-- Only those who write 't' matter. -/
theorem envSel_congr {p q : Nat → Bool} {t : Nat} : ∀ {l : List DO} {vs : List V} {k : Nat} {e e' : E}, E.get e t = E.get e' t →
    (∀ j x, l[j]? = some x → x.o.dst = some t → p (k + j) = q (k + j)) → E.get (envSel p k e l vs) t = E.get (envSel q k e' l vs) t
  | [], _, _, _, _, he, _ => by simpa [envSel] using he
  | _ :: _, [], _, _, _, he, _ => by simpa [envSel] using he
  | x :: l, v :: vs, k, e, e', he, h => by
    simp only [envSel]
    refine envSel_congr ?_ (fun j y hj hd => by have := h (j + 1) y (by simpa using hj) hd; simpa [Nat.add_assoc, Nat.add_comm 1 j] using this)
    by_cases hd : x.o.dst = some t
    · have := h 0 x rfl hd
      simp only [Nat.add_zero] at this
      rw [this]
      cases q k <;> simp [E.get_put, he, hd]
    · cases p k <;> cases q k <;> simp [E.get_put, hd, he]

/-- None that is done writes 't'. -/
theorem envSel_none {p : Nat → Bool} {t : Nat} {l : List DO} {vs : List V} {k : Nat} {e : E} (h : ∀ j x, l[j]? = some x → x.o.dst = some t → p (k + j) = false) : E.get (envSel p k e l vs) t = E.get e t := by
  have : E.get (envSel p k e l vs) t = E.get (envSel (fun _ => false) k e l vs) t := envSel_congr rfl (fun j x hj hd => h j x hj hd)
  rw [this]
  clear this h
  induction l generalizing vs k e with
  | nil => simp [envSel]
  | cons x l ih =>
    cases vs with
    | nil => simp [envSel]
    | cons v vs => simp only [envSel]; exact ih

/-- The last one that writes 't'. -/
theorem envSel_last {p : Nat → Bool} {t : Nat} : ∀ {l : List DO} {vs : List V} {k : Nat} {e : E} {i : Nat} {x : DO} {v : V}, l[i]? = some x → vs[i]? = some v → x.o.dst = some t → p (k + i) = true →
    (∀ j y, i < j → l[j]? = some y → y.o.dst = some t → p (k + j) = false) → E.get (envSel p k e l vs) t = some v
  | [], _, _, _, _, _, _, h, _, _, _, _ => by simp at h
  | _ :: _, [], _, _, _, _, _, _, h, _, _, _ => by simp at h
  | y :: l, u :: vs, k, e, 0, x, v, hx, hv, hd, hp, h => by
    simp only [List.getElem?_cons_zero, Option.some.injEq] at hx hv
    subst hx; subst hv
    simp only [envSel]
    rw [envSel_none fun j z hj hz => by have := h (j + 1) z (Nat.succ_pos _) (by simpa using hj) hz; simpa [Nat.add_assoc, Nat.add_comm 1 j] using this]
    simp only [Nat.add_zero] at hp
    rw [hp]
    simp [E.get_put, hd]
  | y :: l, u :: vs, k, e, i + 1, x, v, hx, hv, hd, hp, h => by
    simp only [List.getElem?_cons_succ] at hx hv
    simp only [envSel]
    exact envSel_last hx hv hd (by simpa [Nat.add_assoc, Nat.add_comm 1 i] using hp)
      (fun j z hj hz hdz => by have := h (j + 1) z (by omega) (by simpa using hz) hdz; simpa [Nat.add_assoc, Nat.add_comm 1 j] using this)

theorem envSel_all : ∀ {l : List DO} {vs : List V} {k : Nat} {e : E} {p : Nat → Bool}, vs.length = l.length → (∀ j, j < l.length → p (k + j) = true) → envSel p k e l vs = envAll e l vs
  | [], [], _, _, _, _, _ => rfl
  | [], _ :: _, _, _, _, h, _ => by simp at h
  | _ :: _, [], _, _, _, h, _ => by simp at h
  | x :: l, v :: vs, k, e, p, h, hp => by
    have := hp 0 (by simp)
    simp only [Nat.add_zero] at this
    simp only [envSel, envAll, this]
    exact envSel_all (by simpa using h) (fun j hj => by have := hp (j + 1) (by simpa using hj); simpa [Nat.add_assoc, Nat.add_comm 1 j] using this)

theorem dropE_get {L : List DO} {t : Nat} {v : V} : ∀ {e : E}, E.get (dropE L e) t = some v → isDst L t = false ∧ E.get e t = some v
  | [], h => by simp [dropE, E.get] at h
  | (u, x) :: e, h => by
    simp only [dropE] at h
    split at h
    · rename_i hd
      obtain ⟨h1, h2⟩ := dropE_get h
      refine ⟨h1, ?_⟩
      simp only [E.get]
      have : Nat.beq u t = false := by
        cases hb : Nat.beq u t with
        | false => rfl
        | true => have := Nat.eq_of_beq_eq_true hb; subst this; rw [hd] at h1; cases h1
      rw [this]; exact h2
    · rename_i hd
      simp only [E.get] at h ⊢
      split at h
      · rename_i hb
        have := Nat.eq_of_beq_eq_true hb
        subst this
        exact ⟨hd, h⟩
      · rename_i hb
        exact dropE_get h

theorem isDst_none {L : List DO} {t : Nat} (h : isDst L t = false) {j : Nat} {x : DO} (hj : L[j]? = some x) : x.o.dst ≠ some t := by
  intro hd
  have hm := List.mem_of_getElem? hj
  simp only [isDst, List.any_eq_false] at h
  have := h x hm
  rw [hd] at this
  simp [Nat.beq_refl] at this

end Go.Den
end

section
/- A region that draws its order: what the interpreter's run of its text says, operation by operation. -/
namespace Go.Den

variable [Gh] {P : Program}

/-! ### Who stands ahead of whom -/

theorem mask1_bit {acc : List Nat} {j : Nat} : ∀ {es : List Edge}, (mask1 acc es).testBit j = true → ∃ e ∈ es, Region.binds .any e = true ∧ (e.on = j ∨ (acc.getD e.on 0).testBit j = true)
  | [], h => by simp [mask1] at h
  | e :: l, h => by
    simp only [mask1] at h
    split at h
    · rename_i hb
      simp only [Nat.testBit_or, Nat.testBit_two_pow, Bool.or_eq_true, decide_eq_true_eq] at h
      rcases h with (h | h) | h
      · exact ⟨e, List.mem_cons_self, hb, .inl h⟩
      · exact ⟨e, List.mem_cons_self, hb, .inr h⟩
      · obtain ⟨e', h1, h2⟩ := mask1_bit h
        exact ⟨e', List.mem_cons_of_mem _ h1, h2⟩
    · obtain ⟨e', h1, h2⟩ := mask1_bit h
      exact ⟨e', List.mem_cons_of_mem _ h1, h2⟩

def MOK (ops : List Oper) (acc : List Nat) : Prop := ∀ i j, i < acc.length → (acc.getD i 0).testBit j = true →
  ∃ o, ops[i]? = some o ∧ ∃ e ∈ o.after, Region.binds .any e = true ∧ e.on < i ∧ (e.on = j ∨ (acc.getD e.on 0).testBit j = true)

theorem masks_ok {ops : List Oper} : ∀ {l : List Oper} {acc : List Nat}, ops.drop acc.length = l → edgesBack acc.length l = true → MOK ops acc → MOK ops (masks l acc)
  | [], _, _, _, h => h
  | o :: l, acc, hd, he, h => by
    simp only [masks]
    simp only [edgesBack, Bool.and_eq_true] at he
    have hlt : acc.length < ops.length := by
      rcases Nat.lt_or_ge acc.length ops.length with h' | h'
      · exact h'
      · rw [List.drop_eq_nil_of_le h'] at hd; cases hd
    have ho : ops[acc.length]? = some o := by
      have := List.drop_eq_getElem_cons hlt
      rw [hd] at this
      rw [List.getElem?_eq_getElem hlt]
      exact congrArg some (List.cons.inj this).1.symm
    refine masks_ok (l := l) ?_ (by simpa using he.2) ?_
    · have := List.drop_eq_getElem_cons hlt
      rw [hd] at this
      simp only [List.length_append, List.length_cons, List.length_nil]
      exact (List.cons.inj this).2.symm
    · intro i j hi hb
      have hget : ∀ m, m < acc.length → (acc ++ [mask1 acc o.after.toList]).getD m 0 = acc.getD m 0 := fun m hm => by
        simp [List.getD, List.getElem?_append_left hm]
      simp only [List.length_append, List.length_cons, List.length_nil] at hi
      rcases Nat.lt_or_ge i acc.length with hlt' | hge
      · rw [hget i hlt'] at hb
        obtain ⟨o', h1, e, h2, h3, h4, h5⟩ := h i j hlt' hb
        exact ⟨o', h1, e, h2, h3, h4, by rw [hget e.on (Nat.lt_trans h4 hlt')]; exact h5⟩
      · have hi' : i = acc.length := by omega
        subst hi'
        have hm : (acc ++ [mask1 acc o.after.toList]).getD acc.length 0 = mask1 acc o.after.toList := by simp [List.getD]
        rw [hm] at hb
        obtain ⟨e, h1, h2, h3⟩ := mask1_bit hb
        have hlt' : e.on < acc.length := by
          have := List.all_eq_true.1 he.1 e h1
          rw [h2] at this
          simpa using this
        exact ⟨o, ho, e, by simpa using h1, h2, hlt', by rw [hget e.on hlt']; exact h3⟩

theorem masks_len : ∀ {l : List Oper} {acc : List Nat}, (masks l acc).length = acc.length + l.length
  | [], _ => rfl
  | o :: l, acc => by simp only [masks]; rw [masks_len]; simp; omega

/-! ### The run of the text -/

def isAct (x : DO) : Bool := decide (x.o.h.cls = .act)
def isAl (x : DO) : Bool := decide (x.o.h.cls = .alloc)
def nAct (l : List DO) (i : Nat) : Nat := (l.take i).countP isAct
def nAl (l : List DO) (i : Nat) : Nat := (l.take i).countP isAl

theorem nAct_zero {l : List DO} : nAct l 0 = 0 := rfl
theorem nAl_zero {l : List DO} : nAl l 0 = 0 := rfl
theorem nAct_succ {x : DO} {l : List DO} {i : Nat} : nAct (x :: l) (i + 1) = (if x.o.h.cls = .act then 1 else 0) + nAct l i := by
  simp only [nAct, List.take_succ_cons, List.countP_cons, isAct, decide_eq_true_eq]; omega
theorem nAl_succ {x : DO} {l : List DO} {i : Nat} : nAl (x :: l) (i + 1) = (if x.o.h.cls = .alloc then 1 else 0) + nAl l i := by
  simp only [nAl, List.take_succ_cons, List.countP_cons, isAl, decide_eq_true_eq]; omega

theorem dlate_spec {k : Nat} {σ : St} : ∀ {l : List DO} {al : Nat} {e : E} {vs : List V}, dlate k σ l al e = some vs →
    vs.length = l.length ∧ ∀ (i : Nat) (x : DO), l[i]? = some x → x.o.h.cls = .alloc → x.o.guard = none ∧ vs[i]? = some (.ptr (some (al + nAl l i, 0)))
  | [], al, e, vs, h => by cases h; exact ⟨rfl, fun i x hx => by simp at hx⟩
  | x :: l, al, e, vs, h => by
    simp only [dlate] at h
    split at h
    · rename_i hc
      have key : ∀ {e' : E} {v : V} {vs' : List V}, dlate k σ l al e' = some vs' → vs = v :: vs' →
          vs.length = (x :: l).length ∧ ∀ (i : Nat) (y : DO), (x :: l)[i]? = some y → y.o.h.cls = .alloc → y.o.guard = none ∧ vs[i]? = some (.ptr (some (al + nAl (x :: l) i, 0))) := by
        rintro e' v vs' h' rfl
        obtain ⟨h1, h2⟩ := dlate_spec h'
        refine ⟨by simp [h1], fun i y hy hcy => ?_⟩
        cases i with
        | zero => simp only [List.getElem?_cons_zero, Option.some.injEq] at hy; subst hy; rw [hc] at hcy; cases hcy
        | succ i =>
          have := h2 i y (by simpa using hy) hcy
          rw [nAl_succ, hc]
          simpa using this
      split at h
      · split at h
        · cases h
        · split at h
          · rename_i h'; cases h; exact key h' rfl
          · cases h
      · split at h
        · rename_i h'; cases h; exact key h' rfl
        · cases h
    · rename_i hc
      split at h
      · cases h
      · rename_i hg
        split at h
        · rename_i vs' h'
          cases h
          obtain ⟨h1, h2⟩ := dlate_spec h'
          refine ⟨by simp [h1], fun i y hy hcy => ?_⟩
          cases i with
          | zero => simp only [List.getElem?_cons_zero, Option.some.injEq] at hy; subst hy; exact ⟨hg, rfl⟩
          | succ i =>
            have := h2 i y (by simpa using hy) hcy
            rw [nAl_succ, if_pos hc, ← Nat.add_assoc]
            simpa using this
        · cases h
    · rename_i hc
      split at h
      · rename_i vs' h'
        cases h
        obtain ⟨h1, h2⟩ := dlate_spec h'
        refine ⟨by simp [h1], fun i y hy hcy => ?_⟩
        cases i with
        | zero => simp only [List.getElem?_cons_zero, Option.some.injEq] at hy; subst hy; rw [hc] at hcy; cases hcy
        | succ i =>
          have := h2 i y (by simpa using hy) hcy
          rw [nAl_succ, hc]
          simpa using this
      · cases h

/-- The trace 't' of 'l', seen from its first operation; 'R': the states, the first one first. -/
structure TrOK (call : Call) (l : List DO) (k al : Nat) (e : E) (t : TR) (R : List St) : Prop where
  len : t.vs.length = l.length
  alloc : ∀ (i : Nat) (x : DO), l[i]? = some x → x.o.h.cls = .alloc → x.o.guard = none ∧ t.vs[i]? = some (.ptr (some (al + nAl l i, 0)))
  act : ∀ (i : Nat) (x : DO), l[i]? = some x → x.o.h.cls = .act → k + nAct l i + 1 < R.length → ∃ s s' v, R[k + nAct l i]? = some s ∧ R[k + nAct l i + 1]? = some s' ∧ t.vs[i]? = some v ∧
    ((wanted (envAll e (l.take i) (t.vs.take i)) x.o.guard = some false ∧ v = undefV ∧ s' = s) ∨
      (wanted (envAll e (l.take i) (t.vs.take i)) x.o.guard = some true ∧ step call x.o (envAll e (l.take i) (t.vs.take i)) s = some (.ok v s')))
  pan : ∀ (i : Nat) (x : DO), l[i]? = some x → x.o.h.cls = .act → k + nAct l i + 1 = R.length → ∃ ch τ s, t.pan = some (ch, τ) ∧ R[k + nAct l i]? = some s ∧
    wanted (envAll e (l.take i) (t.vs.take i)) x.o.guard = some true ∧ step call x.o (envAll e (l.take i) (t.vs.take i)) s = some (.pan ch τ)
  low : k < R.length
  top : t.pan = none → R.length = k + nAct l l.length + 1
  topP : t.pan ≠ none → R.length < k + nAct l l.length + 1

theorem dtr_spec {call : Call} : ∀ {l : List DO} {k al : Nat} {e : E} {σ : St} {ss : List St} {t : TR}, dtr call l k al e σ ss = some t → ss.length = k →
    TrOK call l k al e t t.ss.reverse ∧ ∀ j, j ≤ k → t.ss.reverse[j]? = (σ :: ss).reverse[j]?
  | [], k, al, e, σ, ss, t, h, hk => by
    cases h
    exact ⟨⟨rfl, fun i x hx => by simp at hx, fun i x hx => by simp at hx, fun i x hx => by simp at hx, by simp [hk], fun _ => by simp [hk, nAct], fun h => absurd rfl h⟩, fun j hj => rfl⟩
  | x :: l, k, al, e, σ, ss, t, h, hk => by
    simp only [dtr] at h
    split at h
    · rename_i hc
      split at h
      · cases h
      · rename_i v hv
        split at h
        · rename_i t' ht
          cases h
          obtain ⟨hok, hpre⟩ := dtr_spec ht hk
          refine ⟨⟨by simp [hok.len], ?_, ?_, ?_, hok.low, ?_, ?_⟩, hpre⟩
          · intro i y hy hcy
            cases i with
            | zero => simp only [List.getElem?_cons_zero, Option.some.injEq] at hy; subst hy; rw [hc] at hcy; cases hcy
            | succ i => have := hok.alloc i y (by simpa using hy) hcy; rw [nAl_succ, hc]; simpa using this
          · intro i y hy hcy hl
            cases i with
            | zero => simp only [List.getElem?_cons_zero, Option.some.injEq] at hy; subst hy; rw [hc] at hcy; cases hcy
            | succ i =>
              rw [nAct_succ, hc] at hl ⊢
              have := hok.act i y (by simpa using hy) hcy (by simpa using hl)
              simpa [envAll] using this
          · intro i y hy hcy hl
            cases i with
            | zero => simp only [List.getElem?_cons_zero, Option.some.injEq] at hy; subst hy; rw [hc] at hcy; cases hcy
            | succ i =>
              rw [nAct_succ, hc] at hl ⊢
              have := hok.pan i y (by simpa using hy) hcy (by simpa using hl)
              simpa [envAll] using this
          · intro h; have := hok.top h; rw [List.length_cons, nAct_succ, hc]; simpa using this
          · intro h; have := hok.topP h; rw [List.length_cons, nAct_succ, hc]; simpa using this
        · cases h
    · rename_i hc
      split at h
      · cases h
      · rename_i hg
        split at h
        · rename_i t' ht
          cases h
          obtain ⟨hok, hpre⟩ := dtr_spec ht hk
          refine ⟨⟨by simp [hok.len], ?_, ?_, ?_, hok.low, ?_, ?_⟩, hpre⟩
          · intro i y hy hcy
            cases i with
            | zero => simp only [List.getElem?_cons_zero, Option.some.injEq] at hy; subst hy; exact ⟨hg, rfl⟩
            | succ i => have := hok.alloc i y (by simpa using hy) hcy; rw [nAl_succ, if_pos hc, ← Nat.add_assoc]; simpa using this
          · intro i y hy hcy hl
            cases i with
            | zero => simp only [List.getElem?_cons_zero, Option.some.injEq] at hy; subst hy; rw [hc] at hcy; cases hcy
            | succ i =>
              rw [nAct_succ, hc] at hl ⊢
              have := hok.act i y (by simpa using hy) hcy (by simpa using hl)
              simpa [envAll] using this
          · intro i y hy hcy hl
            cases i with
            | zero => simp only [List.getElem?_cons_zero, Option.some.injEq] at hy; subst hy; rw [hc] at hcy; cases hcy
            | succ i =>
              rw [nAct_succ, hc] at hl ⊢
              have := hok.pan i y (by simpa using hy) hcy (by simpa using hl)
              simpa [envAll] using this
          · intro h; have := hok.top h; rw [List.length_cons, nAct_succ, hc]; simpa using this
          · intro h; have := hok.topP h; rw [List.length_cons, nAct_succ, hc]; simpa using this
        · cases h
    · rename_i hc
      -- an act that goes on
      have key : ∀ {v : V} {τ : St} {t' : TR}, dtr call l (k + 1) al (e.put x.o.dst v) τ (σ :: ss) = some t' → t = ⟨v :: t'.vs, t'.ss, t'.pan⟩ →
          ((wanted e x.o.guard = some false ∧ v = undefV ∧ τ = σ) ∨ (wanted e x.o.guard = some true ∧ step call x.o e σ = some (.ok v τ))) →
          TrOK call (x :: l) k al e t t.ss.reverse ∧ ∀ j, j ≤ k → t.ss.reverse[j]? = (σ :: ss).reverse[j]? := by
        rintro v τ t' ht rfl hw
        obtain ⟨hok, hpre⟩ := dtr_spec ht (by simp [hk])
        have hk0 : (τ :: σ :: ss).reverse[k]? = some σ := by simp [← hk]
        have hk1 : (τ :: σ :: ss).reverse[k + 1]? = some τ := by simp [← hk]
        refine ⟨⟨by simp [hok.len], ?_, ?_, ?_, Nat.lt_of_succ_lt hok.low, ?_, ?_⟩, fun j hj => ?_⟩
        · intro i y hy hcy
          cases i with
          | zero => simp only [List.getElem?_cons_zero, Option.some.injEq] at hy; subst hy; rw [hc] at hcy; cases hcy
          | succ i => have := hok.alloc i y (by simpa using hy) hcy; rw [nAl_succ, hc]; simpa using this
        · intro i y hy hcy hl
          cases i with
          | zero =>
            simp only [List.getElem?_cons_zero, Option.some.injEq] at hy; subst hy
            refine ⟨σ, τ, v, ?_, ?_, rfl, hw⟩
            · rw [nAct_zero, Nat.add_zero, hpre k (Nat.le_succ k)]; exact hk0
            · rw [nAct_zero, Nat.add_zero, hpre (k + 1) (Nat.le_refl _)]; exact hk1
          | succ i =>
            rw [nAct_succ, if_pos hc, ← Nat.add_assoc] at hl ⊢
            have := hok.act i y (by simpa using hy) hcy hl
            simpa [envAll] using this
        · intro i y hy hcy hl
          cases i with
          | zero => have h9 := hok.low; rw [nAct_zero] at hl; exact absurd (show k + 1 < t'.ss.reverse.length from h9) (by have : k + 1 = t'.ss.reverse.length := hl; omega)
          | succ i =>
            rw [nAct_succ, if_pos hc, ← Nat.add_assoc] at hl ⊢
            have := hok.pan i y (by simpa using hy) hcy hl
            simpa [envAll] using this
        · intro h; have := hok.top h; rw [List.length_cons, nAct_succ, if_pos hc, ← Nat.add_assoc]; exact this
        · intro h; have := hok.topP h; rw [List.length_cons, nAct_succ, if_pos hc, ← Nat.add_assoc]; exact this
        · rw [hpre j (Nat.le_succ_of_le hj)]
          simp only [List.reverse_cons, List.append_assoc]
          rw [← List.append_assoc, List.getElem?_append_left (by simp; omega)]
      split at h
      · cases h
      · rename_i hw
        split at h
        · rename_i t' ht; cases h; exact key ht rfl (.inl ⟨hw, rfl, rfl⟩)
        · cases h
      · rename_i hw
        split at h
        · rename_i v τ hs
          split at h
          · rename_i t' ht; cases h; exact key ht rfl (.inr ⟨hw, hs⟩)
          · cases h
        · rename_i ch τ hs
          split at h
          · rename_i vs hd
            cases h
            obtain ⟨h1, h2⟩ := dlate_spec hd
            have hlen : (σ :: ss).reverse.length = k + 1 := by simp [hk]
            have hk0 : (σ :: ss).reverse[k]? = some σ := by simp [← hk]
            refine ⟨⟨by simp [h1], ?_, ?_, ?_, by simp [hk], fun h => by simp at h, fun _ => ?_⟩, fun j _ => rfl⟩
            · intro i y hy hcy
              cases i with
              | zero => simp only [List.getElem?_cons_zero, Option.some.injEq] at hy; subst hy; rw [hc] at hcy; cases hcy
              | succ i => have := h2 i y (by simpa using hy) hcy; rw [nAl_succ, hc]; simpa using this
            · intro i y hy hcy hl
              rw [hlen] at hl; omega
            · intro i y hy hcy hl
              cases i with
              | zero =>
                simp only [List.getElem?_cons_zero, Option.some.injEq] at hy; subst hy
                exact ⟨ch, τ, σ, rfl, hk0, hw, hs⟩
              | succ i => rw [nAct_succ, if_pos hc, hlen] at hl; omega
            · rw [List.length_cons, nAct_succ, if_pos hc, hlen]; omega
          · cases h
        · cases h

/-! ### The checks -/

def possAt (q : Nat) (x : DO) (m : Nat) : Bool := match x.o.h.cls with
  | .look => Nat.ble x.lo q
  | .alloc => true
  | .act => Nat.blt m q

theorem chkAll_spec {o : Ins} {e : E} {v : V} : ∀ {l : List St}, chkAll o e v l = true → ∀ s ∈ l, look1 o e s = some v
  | [], _, s, h => by simp at h
  | σ :: l, h, s, hs => by
    simp only [chkAll] at h
    split at h
    · rename_i u hu
      simp only [Bool.and_eq_true] at h
      rcases List.mem_cons.1 hs with rfl | hs
      · rw [hu, beqV_eq h.1]
      · exact chkAll_spec h.2 s hs
    · cases h

theorem dchk_spec {R : List St} {q : Nat} {pp : Nat → Bool} : ∀ {l : List DO} {vs : List V} {k b : Nat} {e : E}, dchk R q l vs k e = true →
    (∀ (j : Nat) (x : DO), l[j]? = some x → pp (b + j) = possAt q x (k + nAct l j)) →
    ∀ (i : Nat) (x : DO) (v : V), l[i]? = some x → vs[i]? = some v → x.o.h.cls = .look → x.lo ≤ q → ∀ (j : Nat) (s : St), x.lo ≤ j → j ≤ x.hi → R[j]? = some s → look1 x.o (envSel pp b e (l.take i) (vs.take i)) s = some v
  | [], _, _, _, _, _, _ => fun i x v hx => by simp at hx
  | x :: l, [], _, _, _, h, _ => by simp [dchk] at h
  | x :: l, v :: vs, k, b, e, h, hp => by
    have hp0 := hp 0 x rfl
    simp only [Nat.add_zero, nAct_zero] at hp0
    have hpl : ∀ (j : Nat) (y : DO), l[j]? = some y → pp (b + 1 + j) = possAt q y (k + (if x.o.h.cls = .act then 1 else 0) + nAct l j) := fun j y hy => by
      have := hp (j + 1) y (by simpa using hy)
      rw [nAct_succ] at this
      rw [Nat.add_assoc b 1 j, Nat.add_comm 1 j, this, Nat.add_assoc]
    -- the tail, in an environment
    have key : ∀ {e' : E}, dchk R q l vs (k + (if x.o.h.cls = .act then 1 else 0)) e' = true → (match pp b with | true => e.put x.o.dst v | false => e) = e' →
        ∀ (i : Nat) (y : DO) (u : V), l[i]? = some y → vs[i]? = some u → y.o.h.cls = .look → y.lo ≤ q → ∀ (j : Nat) (s : St), y.lo ≤ j → j ≤ y.hi → R[j]? = some s → look1 y.o (envSel pp b e (x :: l.take i) (v :: vs.take i)) s = some u := by
      rintro e' h' rfl i y u hy hu hc hlo j s h1 h2 hs
      simp only [envSel]
      exact dchk_spec h' hpl i y u hy hu hc hlo j s h1 h2 hs
    simp only [dchk] at h
    intro i y u hy hu hcy hlo j s hj1 hj2 hs
    split at h
    · rename_i hc
      split at h
      · rename_i hb
        simp only [Bool.and_eq_true] at h
        cases i with
        | zero =>
          simp only [List.getElem?_cons_zero, Option.some.injEq] at hy hu
          subst hy; subst hu
          simp only [List.take_zero, envSel]
          refine chkAll_spec h.1 s ?_
          have : (((R.drop x.lo).take (x.hi + 1 - x.lo)))[j - x.lo]? = some s := by
            rw [List.getElem?_take, if_pos (by omega), List.getElem?_drop]
            rw [show x.lo + (j - x.lo) = j by omega]
            exact hs
          exact List.mem_of_getElem? this
        | succ i =>
          simp only [List.take_succ_cons]
          refine key (e' := e.put x.o.dst v) (by simpa [hc] using h.2) ?_ i y u (by simpa using hy) (by simpa using hu) hcy hlo j s hj1 hj2 hs
          rw [hp0]; simp [possAt, hc, hb]
      · rename_i hb
        cases i with
        | zero =>
          simp only [List.getElem?_cons_zero, Option.some.injEq] at hy hu
          subst hy; subst hu
          exact absurd (Nat.ble_eq_true_of_le hlo) (by rw [hb]; simp)
        | succ i =>
          simp only [List.take_succ_cons]
          refine key (e' := e) (by simpa [hc] using h) ?_ i y u (by simpa using hy) (by simpa using hu) hcy hlo j s hj1 hj2 hs
          rw [hp0]; simp [possAt, hc, hb]
    · rename_i hc
      cases i with
      | zero => simp only [List.getElem?_cons_zero, Option.some.injEq] at hy; subst hy; rw [hc] at hcy; cases hcy
      | succ i =>
        simp only [List.take_succ_cons]
        refine key (e' := e.put x.o.dst v) (by simpa [hc] using h) ?_ i y u (by simpa using hy) (by simpa using hu) hcy hlo j s hj1 hj2 hs
        rw [hp0]; simp [possAt, hc]
    · rename_i hc
      cases i with
      | zero => simp only [List.getElem?_cons_zero, Option.some.injEq] at hy; subst hy; rw [hc] at hcy; cases hcy
      | succ i =>
        simp only [List.take_succ_cons]
        split at h
        · rename_i hb
          refine key (e' := e.put x.o.dst v) (by simpa [hc] using h) ?_ i y u (by simpa using hy) (by simpa using hu) hcy hlo j s hj1 hj2 hs
          rw [hp0]; simp only [possAt, hc, hb]
        · rename_i hb
          refine key (e' := e) (by simpa [hc] using h) ?_ i y u (by simpa using hy) (by simpa using hu) hcy hlo j s hj1 hj2 hs
          rw [hp0]; simp only [possAt, hc, hb]

end Go.Den
end

section
/- A region that draws its order: every order that it may draw ends as the interpreter says. -/
namespace Go.Den

variable [Gh] {P : Program}

/-! ### The blocks that are made ahead -/

theorem Rep.ghost {ι : Inj} {σ : St} {w : World} (h : Rep P ι σ w) (b : Blk) : Rep P ι (σ.new b) w := by
  have hf := h.fresh
  have hne : ∀ {i l}, ι i = some l → i ≠ σ.next := fun hi e => by rw [e, hf] at hi; cases hi
  exact ⟨fun hi => Nat.lt_succ_of_lt (h.low hi), fun hi hb => h.obj hi (by rw [St.at_new, if_neg (hne hi)] at hb; exact hb), keep_same h.kept (h.fix_new b), fun hi hb => h.own hi (by rw [St.at_new, if_neg (hne hi)] at hb; exact hb), fun {_} hi => h.fixd_of (Nat.le_succ _) (h.fix_new b) hi, h.locd, fun hi hb => h.org hi (by rw [St.at_new, if_neg (hne hi)] at hb; exact hb),
    fun hi hj hoi hoj => h.inj hi hj (by rw [St.at_new, if_neg (hne hi)] at hoi; exact hoi) (by rw [St.at_new, if_neg (hne hj)] at hoj; exact hoj), h.glob⟩

theorem St.new_next (σ : St) (b : Blk) : (σ.new b).next = σ.next + 1 := rfl

theorem prealloc_spec {ι : Inj} {w : World} : ∀ {l : List DO} {σ : St}, Rep P ι σ w → Rep P ι (prealloc l σ) w ∧ σ.next ≤ (prealloc l σ).next ∧ (∀ i, i < σ.next → (prealloc l σ).at i = σ.at i) ∧
    ∀ (j : Nat) (x : DO) (t : Nat) (zs : List V), l[j]? = some x → x.o.h = .alloc t zs → σ.next + nAl l j < (prealloc l σ).next ∧ (prealloc l σ).at (σ.next + nAl l j) = some (.row zs t 0 0 false)
  | [], σ, h => ⟨h, Nat.le_refl _, fun _ _ => rfl, fun j x t zs hx => by simp at hx⟩
  | x :: l, σ, h => by
    simp only [prealloc]
    split
    · rename_i e zs hh
      have hc : x.o.h.cls = .alloc := by rw [hh]; rfl
      obtain ⟨h1, h2, h3, h4⟩ := prealloc_spec (l := l) (h.ghost (.row zs e 0 0 false))
      rw [St.new_next] at h2 h3 h4
      refine ⟨h1, by omega, fun i hi => ?_, fun j y t zs' hy hcy => ?_⟩
      · rw [h3 i (by omega), St.at_new, if_neg (by omega)]
      · cases j with
        | zero =>
          simp only [List.getElem?_cons_zero, Option.some.injEq] at hy; subst hy
          rw [hh] at hcy; cases hcy
          rw [nAl_zero, Nat.add_zero, h3 _ (Nat.lt_succ_self _), St.at_new, if_pos rfl]
          exact ⟨by omega, rfl⟩
        | succ j =>
          have := h4 j y t zs' (by simpa using hy) hcy
          rw [nAl_succ, if_pos hc, ← Nat.add_assoc]
          exact this
    · rename_i hh
      have hc : x.o.h.cls ≠ .alloc := fun hc => by
        obtain ⟨e, zs, h'⟩ := cls_alloc hc
        exact hh e zs h'
      obtain ⟨h1, h2, h3, h4⟩ := prealloc_spec (l := l) h
      refine ⟨h1, h2, h3, fun j y t zs' hy hcy => ?_⟩
      cases j with
      | zero =>
        simp only [List.getElem?_cons_zero, Option.some.injEq] at hy; subst hy
        exact absurd hcy (hh t zs')
      | succ j =>
        have := h4 j y t zs' (by simpa using hy) hcy
        rw [nAl_succ, if_neg hc, Nat.zero_add]
        exact this

/-! ### Counting acts -/

def actB (L : List DO) (j : Nat) : Bool := match L[j]? with
  | some x => isAct x
  | none => false

theorem nAct_step {L : List DO} {i : Nat} : nAct L (i + 1) = nAct L i + (if actB L i = true then 1 else 0) := by
  unfold nAct actB
  rw [List.take_add_one, List.countP_append]
  cases L[i]? with
  | none => simp
  | some x => simp [List.countP_cons]

theorem nAct_range {L : List DO} {i : Nat} : nAct L i = (List.range i).countP (actB L) := by
  induction i with
  | zero => rfl
  | succ i ih => rw [nAct_step, List.range_succ, List.countP_append, ih]; simp [List.countP_cons]

/-- How many acts of the first 'n' are done. -/
def kS (L : List DO) (n : Nat) (S : Nat → Bool) : Nat := (List.range n).countP fun j => actB L j && S j

theorem kS_succ {L : List DO} {n : Nat} {S : Nat → Bool} : kS L (n + 1) S = kS L n S + (if (actB L n && S n) = true then 1 else 0) := by
  unfold kS
  rw [List.range_succ, List.countP_append]; simp [List.countP_cons]

theorem kS_congr {L : List DO} {n : Nat} {S T : Nat → Bool} (h : ∀ j, j < n → actB L j = true → S j = T j) : kS L n S = kS L n T := by
  induction n with
  | zero => rfl
  | succ n ih =>
    rw [kS_succ, kS_succ, ih fun j hj => h j (Nat.lt_succ_of_lt hj)]
    cases ha : actB L n with
    | false => simp
    | true => rw [h n (Nat.lt_succ_self n) ha]

theorem kS_le {L : List DO} {n : Nat} {S T : Nat → Bool} (h : ∀ j, j < n → actB L j = true → S j = true → T j = true) : kS L n S ≤ kS L n T := by
  induction n with
  | zero => exact Nat.le_refl _
  | succ n ih =>
    rw [kS_succ, kS_succ]
    have := ih fun j hj => h j (Nat.lt_succ_of_lt hj)
    have := h n (Nat.lt_succ_self n)
    cases ha : actB L n <;> cases hs : S n <;> simp [ha, hs] at * <;> first | omega | (rw [this]; simp; omega)

theorem kS_lt {L : List DO} {i : Nat} : ∀ {n : Nat}, i ≤ n → kS L n (fun j => decide (j < i)) = nAct L i
  | 0, h => by rw [Nat.le_zero.1 h]; rfl
  | n + 1, h => by
    rw [kS_succ]
    rcases Nat.lt_or_ge i (n + 1) with h' | h'
    · rw [kS_lt (Nat.le_of_lt_succ h')]
      have : ¬ n < i := by omega
      simp [this]
    · have : i = n + 1 := by omega
      subst this
      rw [nAct_step]
      have := kS_lt (L := L) (i := n) (n := n) (Nat.le_refl _)
      rw [← this]
      rw [kS_congr (T := fun j => decide (j < n)) (fun j hj _ => by simp [hj]; omega)]
      simp

theorem kS_add {L : List DO} {n : Nat} {S T : Nat → Bool} {i : Nat} (hi : i < n) (hS : S i = false) (hT : ∀ j, j ≠ i → T j = S j) (hTi : T i = true) :
    kS L n T = kS L n S + (if actB L i = true then 1 else 0) := by
  induction n with
  | zero => omega
  | succ n ih =>
    rw [kS_succ, kS_succ]
    by_cases h : i = n
    · subst h
      rw [kS_congr (S := T) (T := S) (fun j hj _ => hT j (by omega)), hTi, hS]
      simp
    · rw [ih (by omega), hT n (fun e => h e.symm)]
      omega

theorem kS_all {L : List DO} {n : Nat} {S : Nat → Bool} (h : ∀ j, j < n → S j = true) : kS L n S = nAct L n := by
  rw [← kS_lt (L := L) (Nat.le_refl n)]
  exact kS_congr fun j hj _ => by rw [h j hj]; simp [hj]

/-! ### Environments -/

theorem envSel_off {p : Nat → Bool} : ∀ {l : List DO} {vs : List V} {k : Nat} {e : E}, (∀ j, k ≤ j → p j = false) → envSel p k e l vs = e
  | [], _, _, _, _ => by simp [envSel]
  | _ :: _, [], _, _, _ => by simp [envSel]
  | x :: l, v :: vs, k, e, h => by
    simp only [envSel, h k (Nat.le_refl k)]
    exact envSel_off fun j hj => h j (by omega)

theorem envSel_take {p : Nat → Bool} : ∀ {l : List DO} {vs : List V} {k i : Nat} {e : E}, (∀ j, k + i ≤ j → p j = false) → envSel p k e l vs = envSel p k e (l.take i) (vs.take i)
  | [], _, _, _, _, _ => by simp [envSel]
  | _ :: _, [], _, _, _, _ => by simp [envSel]
  | x :: l, v :: vs, k, 0, e, h => by
    rw [envSel_off fun j hj => h j (by omega)]
    simp [envSel]
  | x :: l, v :: vs, k, i + 1, e, h => by
    simp only [List.take_succ_cons, envSel]
    exact envSel_take fun j hj => h j (by omega)

theorem evs_congr {e e' : E} : ∀ {l : List A}, (∀ t ∈ l.filterMap A.tmp?, E.get e t = E.get e' t) → evs e l = evs e' l
  | [], _ => rfl
  | a :: l, h => by
    have ha : ev e a = ev e' a := by
      cases a with
      | t n => exact h n (by simp [A.tmp?])
      | c v => rfl
      | g n => rfl
      | f n => rfl
    have hl := evs_congr (e := e) (e' := e') (l := l) fun t ht => h t (by
      rw [List.filterMap_cons]
      split
      · exact ht
      · exact List.mem_cons_of_mem _ ht)
    simp only [evs, ha, hl]

theorem wanted_congr {e e' : E} {g : Option (Nat × Bool)} (h : ∀ t b, g = some (t, b) → E.get e t = E.get e' t) : wanted e g = wanted e' g := by
  cases g with
  | none => rfl
  | some p => obtain ⟨t, b⟩ := p; simp only [wanted, h t b rfl]

theorem names_congr {e e' : E} {o : Ins} (h : ∀ t ∈ o.names, E.get e t = E.get e' t) : wanted e o.guard = wanted e' o.guard ∧ evs e o.args = evs e' o.args := by
  constructor
  · refine wanted_congr fun t b hg => h t ?_
    unfold Ins.names
    rw [hg]
    simp
  · refine evs_congr fun t ht => h t ?_
    unfold Ins.names
    exact List.mem_append_left _ (List.mem_append_right _ ht)

theorem look1_congr {e e' : E} {o : Ins} (h : ∀ t ∈ o.names, E.get e t = E.get e' t) {σ : St} : look1 o e σ = look1 o e' σ := by
  obtain ⟨h1, h2⟩ := names_congr h
  simp only [look1, h1, h2]

theorem step_congr {call : Call} {e e' : E} {o : Ins} (h : ∀ t ∈ o.names, E.get e t = E.get e' t) {σ : St} : step call o e σ = step call o e' σ := by
  obtain ⟨h1, h2⟩ := names_congr h
  simp only [step, h2]

theorem AR.congr {ι : Inj} {N : Nat} {e e' : E} {d : D} {a : Act} (r : AR ι N e d a) (h : ∀ t, E.get e' t = E.get e t) : AR ι N e' d a :=
  ⟨r.size, fun ht => r.env (by rw [← h]; exact ht), r.dfr⟩

/-- A look, carried out. -/
theorem look_sim {tabs : String → List Nat} {N : Nat} {ops : Array Oper} {o : Oper} {x : Ins} (hc : compIO P tabs N ops o = some x) (hcl : x.h.cls = .look) {ι : Inj} {e : E} {a : Act} {σ : St} {w : World}
    (ra : RA P.globals.size ι e a.eval) (hrep : Rep P ι σ w) {v : V} (hw : wanted e x.guard = some true) (hs : look1 x e σ = some v) (K : Act → World → Prop) (Q : Exit → Act → World → Prop)
    (h : ∀ κ y w', Ext ι κ σ σ → Rep P κ σ w' → gam κ v = some y → K (a.put o.dst y) w') {F : Fence} (hF : FOk F) {n : Nat} : o.wpIn F n P a w K Q := by
  unfold compIO at hc
  split at hc
  case h_2 => cases hc
  rename_i hd xs hh
  split at hc
  case h_2 => cases hc
  rename_i as g dd hxs hg hdst
  cases hc
  simp only [look1, hw] at hs
  split at hs
  · cases hs
  rename_i vs hvs
  have hx := RA.list ra hxs hvs
  split at hs
  · rename_i v' τ hsem
    cases hs
    have := sem_look hcl hsem
    subst this
    obtain ⟨κ, y, w', h1, h2, h3, h4⟩ := op_sim (P := P) hh hx hsem hrep
    refine ⟨fun f _ => hF.fn f, ?_⟩
    rw [Oper.semAt_eq _ _ _ (compH_noDefer hh (fun e => by subst e; cases hcl)), h1]
    exact h κ y w' h4 h3 h2
  · cases hs

end Go.Den
end

section
/- A region that draws its order: the main proof. -/
namespace Go.Den

variable [Gh] {P : Program}

structure DCtx (P : Program) (tabs : String → List Nat) (N : Nat) (ops : Array Oper) (L : List DO) (B : Nat → Nat → Bool) : Prop where
  size : L.length = ops.size
  comp : ∀ (i : Nat) (o : Oper), ops[i]? = some o → ∃ x, L[i]? = some x ∧ compIO P tabs N ops o = some x.o
  bit : ∀ i j, i < ops.size → B i j = true → ∃ o, ops[i]? = some o ∧ ∃ e ∈ o.after, Region.binds .any e = true ∧ e.on < i ∧ (e.on = j ∨ B e.on j = true)
  back : ∀ (i : Nat) (o : Oper), ops[i]? = some o → ∀ e ∈ o.after, Region.binds .any e = true → e.on < i
  temps : ∀ (i j : Nat) (x y : DO) (t : Nat), L[i]? = some x → L[j]? = some y → i ≠ j → y.o.dst = some t → t ∈ x.o.names → B i j = true ∨ B j i = true
  acts : ∀ i j, i < j → actB L i = true → actB L j = true → B j i = true
  lo : ∀ (i : Nat) (x : DO), L[i]? = some x → x.lo = kS L ops.size (fun j => B i j)
  hi : ∀ (i : Nat) (x : DO), L[i]? = some x → x.hi = kS L ops.size (fun j => !B j i)

def Closed (ops : Array Oper) (S : Nat → Bool) : Prop := ∀ (i : Nat) (o : Oper), ops[i]? = some o → S i = true → ∀ e ∈ o.after, Region.binds .any e = true → S e.on = true

theorem DCtx.lt {tabs : String → List Nat} {N : Nat} {ops : Array Oper} {L : List DO} {B : Nat → Nat → Bool} (c : DCtx P tabs N ops L B) : ∀ (i j : Nat), i < ops.size → B i j = true → j < i := by
  intro i
  induction i using Nat.strongRecOn with
  | _ i ih =>
    intro j hi hb
    obtain ⟨o, ho, e, he, hbi, hlt, h⟩ := c.bit i j hi hb
    rcases h with rfl | h
    · exact hlt
    · exact Nat.lt_trans (ih e.on hlt j (by omega) h) hlt

theorem DCtx.before' {tabs : String → List Nat} {N : Nat} {ops : Array Oper} {L : List DO} {B : Nat → Nat → Bool} (c : DCtx P tabs N ops L B) {S : Nat → Bool} (hc : Closed ops S) : ∀ (i j : Nat), i < ops.size → S i = true → B i j = true → S j = true := by
  intro i
  induction i using Nat.strongRecOn with
  | _ i ih =>
    intro j hi hs hb
    obtain ⟨o, ho, e, he, hbi, hlt, h⟩ := c.bit i j hi hb
    have hse := hc i o ho hs e he hbi
    rcases h with rfl | h
    · exact hse
    · exact ih e.on hlt j (by omega) hse h

theorem DCtx.before {tabs : String → List Nat} {N : Nat} {ops : Array Oper} {L : List DO} {B : Nat → Nat → Bool} (c : DCtx P tabs N ops L B) {S : Nat → Bool} (hc : Closed ops S) {i : Nat} {o : Oper} (ho : ops[i]? = some o)
    (hr : ∀ e ∈ o.after, Region.binds .any e = true → S e.on = true) {j : Nat} (hb : B i j = true) : S j = true := by
  have hi := (Array.getElem?_eq_some_iff.1 ho).1
  obtain ⟨o', ho', e, he, hbi, hlt, h⟩ := c.bit i j hi hb
  rw [ho] at ho'; cases ho'
  have hse := hr e he hbi
  rcases h with rfl | h
  · exact hse
  · exact c.before' hc e.on j (by omega) hse h

/-- Where a part of the operations is done. -/
structure DInv (P : Program) (N : Nat) (ops : Array Oper) (L : List DO) (e : E) (d : D) (t : TR) (ι : Inj) (σ : St) (S : Nat → Bool) (κ : Inj) (s : St) (a : Act) (w : World) : Prop where
  st : t.ss.reverse[kS L ops.size S]? = some s
  ext : Ext ι κ σ s
  rep : Rep P κ s w
  ar : AR κ N (envSel S 0 e L t.vs) d a
  poss : ∀ (j : Nat) (x : DO), L[j]? = some x → S j = true → possAt (t.ss.length - 1) x (nAct L j) = true
  ghost : ∀ (j : Nat) (x : DO) (u : Nat) (zs : List V), L[j]? = some x → x.o.h = .alloc u zs → S j = false → κ (σ.next + nAl L j) = none ∧ s.at (σ.next + nAl L j) = some (.row zs u 0 0 false) ∧ σ.next + nAl L j < s.next
  closed : Closed ops S

section
variable {call : Call} {tabs : String → List Nat} {N : Nat} {ops : Array Oper} {L : List DO} {B : Nat → Nat → Bool} {e : E} {d : D} {t : TR} {ι : Inj} {σ : St}

/-- One more operation is done. -/
theorem DInv.next (c : DCtx P tabs N ops L B) {S : Nat → Bool} {κ : Inj} {s : St} {a : Act} {w : World} (h : DInv P N ops L e d t ι σ S κ s a w)
    {i : Nat} {o : Oper} {x : DO} (ho : ops[i]? = some o) (hx : L[i]? = some x) (hc : compIO P tabs N ops o = some x.o) (hi : S i = false) (hr : ∀ e ∈ o.after, Region.binds .any e = true → S e.on = true)
    {T : Nat → Bool} (hT : ∀ j, j ≠ i → T j = S j) (hTi : T i = true) {κ' : Inj} {s' : St} {w' : World} {v : V} {y : Value}
    (hst : t.ss.reverse[kS L ops.size T]? = some s') (hle : κ.le κ') (hext : Ext ι κ' σ s') (hrep : Rep P κ' s' w') (hv : t.vs[i]? = some v) (hy : gam κ' v = some y)
    (hposs : possAt (t.ss.length - 1) x (nAct L i) = true)
    (hghost : ∀ (j : Nat) (x : DO) (u : Nat) (zs : List V), j ≠ i → L[j]? = some x → x.o.h = .alloc u zs → S j = false → κ' (σ.next + nAl L j) = none ∧ s'.at (σ.next + nAl L j) = some (.row zs u 0 0 false) ∧ σ.next + nAl L j < s'.next) :
    DInv P N ops L e d t ι σ T κ' s' (a.put o.dst y) w' := by
  obtain ⟨hd1, hd2, hg⟩ := compIO_dst hc
  refine ⟨hst, hext, hrep, ?_, fun j z hz hj => ?_, fun j z u zs hz hh hj => ?_, fun j o' ho' hj ed he hb => ?_⟩
  · have h1 := (h.ar.mono hle).put (dst := x.o.dst) (fun u hu => hd2 u (hd1 ▸ hu)) hy
    rw [hd1] at h1
    refine h1.congr fun u => ?_
    rw [E.get_put]
    split
    · rename_i hu
      refine envSel_last hx hv (hd1.trans hu) (by simpa using hTi) fun j z hj hz hzu => ?_
      rw [Nat.zero_add, hT j (by omega)]
      -- a later writer is not done
      have hmem : u ∈ x.o.names := by
        unfold Ins.names
        rw [hd1, hu]
        simp
      rcases c.temps i j x z u hx hz (by omega) hzu hmem with hb | hb
      · exact absurd (c.lt i j (Array.getElem?_eq_some_iff.1 ho).1 hb) (by omega)
      · cases hs : S j with
        | false => rfl
        | true =>
          have hlt : j < ops.size := by rw [← c.size]; exact (List.getElem?_eq_some_iff.1 hz).1
          rw [c.before' h.closed j i hlt hs hb] at hi
          cases hi
    · rename_i hu
      refine envSel_congr rfl fun j z hz hzu => ?_
      rw [Nat.zero_add]
      refine hT j fun e => ?_
      subst e
      rw [hx] at hz; cases hz
      exact hu (hd1 ▸ hzu)
  · by_cases e : j = i
    · subst e; rw [hx] at hz; cases hz; exact hposs
    · exact h.poss j z hz (by rw [← hT j e]; exact hj)
  · by_cases e : j = i
    · subst e; rw [hTi] at hj; cases hj
    · exact hghost j z u zs e hz hh (by rw [← hT j e]; exact hj)
  · have hsub : ∀ j, S j = true → T j = true := fun j hs => by
      by_cases e : j = i
      · subst e; exact hTi
      · rw [hT j e]; exact hs
    by_cases e : j = i
    · subst e
      rw [ho] at ho'; cases ho'
      exact hsub _ (hr ed he hb)
    · exact hsub _ (h.closed j o' ho' (by rw [← hT j e]; exact hj) ed he hb)

/-- Who writes what the next operation looks at is done if and only if it stands ahead in the text. -/
theorem DInv.writers (c : DCtx P tabs N ops L B) {S : Nat → Bool} {κ : Inj} {s : St} {a : Act} {w : World} (h : DInv P N ops L e d t ι σ S κ s a w)
    {i : Nat} {o : Oper} {x : DO} (ho : ops[i]? = some o) (hx : L[i]? = some x) (hi : S i = false) (hr : ∀ e ∈ o.after, Region.binds .any e = true → S e.on = true)
    {u : Nat} (hu : u ∈ x.o.names) {j : Nat} {y : DO} (hy : L[j]? = some y) (hd : y.o.dst = some u) : S j = decide (j < i) := by
  have hil := (Array.getElem?_eq_some_iff.1 ho).1
  have hjl : j < ops.size := by rw [← c.size]; exact (List.getElem?_eq_some_iff.1 hy).1
  by_cases e : j = i
  · subst e; rw [hi]; simp
  · rcases c.temps i j x y u hx hy (fun e' => e e'.symm) hd hu with hb | hb
    · rw [c.before h.closed ho hr hb]
      have := c.lt i j hil hb
      simp [this]
    · have hlt := c.lt j i hjl hb
      have : ¬ j < i := by omega
      cases hs : S j with
      | false => simp [this]
      | true => rw [c.before' h.closed j i hjl hs hb] at hi; cases hi

theorem DInv.env (c : DCtx P tabs N ops L B) {S : Nat → Bool} {κ : Inj} {s : St} {a : Act} {w : World} (h : DInv P N ops L e d t ι σ S κ s a w) (hlen : t.vs.length = L.length)
    {i : Nat} {o : Oper} {x : DO} (ho : ops[i]? = some o) (hx : L[i]? = some x) (hi : S i = false) (hr : ∀ e ∈ o.after, Region.binds .any e = true → S e.on = true) :
    ∀ u ∈ x.o.names, E.get (envSel S 0 e L t.vs) u = E.get (envAll e (L.take i) (t.vs.take i)) u := by
  intro u hu
  have hil : i < L.length := (List.getElem?_eq_some_iff.1 hx).1
  rw [envSel_congr (q := fun j => decide (j < i)) (e' := e) rfl fun j y hy hd => by
    rw [Nat.zero_add]; exact h.writers c ho hx hi hr hu hy hd]
  rw [envSel_take (i := i) fun j hj => by simp; omega]
  rw [envSel_all (by simp [hlen]) fun j hj => by simp at hj; simp; omega]

def pp (q : Nat) (L : List DO) (j : Nat) : Bool := match L[j]? with
  | some x => possAt q x (nAct L j)
  | none => false

theorem DInv.envP (c : DCtx P tabs N ops L B) {S : Nat → Bool} {κ : Inj} {s : St} {a : Act} {w : World} (h : DInv P N ops L e d t ι σ S κ s a w)
    {i : Nat} {o : Oper} {x : DO} (ho : ops[i]? = some o) (hx : L[i]? = some x) (hi : S i = false) (hr : ∀ e ∈ o.after, Region.binds .any e = true → S e.on = true) :
    ∀ u ∈ x.o.names, E.get (envSel S 0 e L t.vs) u = E.get (envSel (pp (t.ss.length - 1) L) 0 e (L.take i) (t.vs.take i)) u := by
  intro u hu
  rw [envSel_congr (q := fun j => pp (t.ss.length - 1) L j && decide (j < i)) (e' := e) rfl fun j y hy hd => by
    rw [Nat.zero_add]
    have hw := h.writers c ho hx hi hr hu hy hd
    rw [hw]
    cases hlt : decide (j < i) with
    | false => simp
    | true =>
      rw [hlt] at hw
      have := h.poss j y hy hw
      simp [pp, hy, this]]
  rw [envSel_take (i := i) fun j hj => by
    have : ¬ j < i := by omega
    simp [this]]
  refine envSel_congr rfl fun j y hy hd => ?_
  have hlt : j < (L.take i).length := (List.getElem?_eq_some_iff.1 hy).1
  have : j < i := by simp at hlt; omega
  simp [this]

/-- How many acts are done where an act comes up. -/
theorem DInv.count (c : DCtx P tabs N ops L B) {S : Nat → Bool} {κ : Inj} {s : St} {a : Act} {w : World} (h : DInv P N ops L e d t ι σ S κ s a w)
    {i : Nat} {o : Oper} (ho : ops[i]? = some o) (ha : actB L i = true) (hi : S i = false) (hr : ∀ e ∈ o.after, Region.binds .any e = true → S e.on = true) : kS L ops.size S = nAct L i := by
  have hil := (Array.getElem?_eq_some_iff.1 ho).1
  rw [← kS_lt (L := L) (Nat.le_of_lt hil)]
  refine kS_congr fun j hj haj => ?_
  rcases Nat.lt_trichotomy j i with hlt | rfl | hgt
  · rw [c.before h.closed ho hr (c.acts j i hlt haj ha)]; simp [hlt]
  · rw [hi]; simp
  · have : ¬ j < i := by omega
    cases hs : S j with
    | false => simp [this]
    | true => rw [c.before' h.closed j i hj hs (c.acts i j hgt ha haj)] at hi; cases hi

theorem DInv.range (c : DCtx P tabs N ops L B) {S : Nat → Bool} {κ : Inj} {s : St} {a : Act} {w : World} (h : DInv P N ops L e d t ι σ S κ s a w)
    {i : Nat} {o : Oper} {x : DO} (ho : ops[i]? = some o) (hx : L[i]? = some x) (hi : S i = false) (hr : ∀ e ∈ o.after, Region.binds .any e = true → S e.on = true) : x.lo ≤ kS L ops.size S ∧ kS L ops.size S ≤ x.hi := by
  constructor
  · rw [c.lo i x hx]
    exact kS_le fun j hj _ hb => c.before h.closed ho hr hb
  · rw [c.hi i x hx]
    refine kS_le fun j hj _ hs => ?_
    cases hb : B j i with
    | false => rfl
    | true => rw [c.before' h.closed j i hj hs hb] at hi; cases hi

theorem dreg_any {F : Fence} (hF : FOk F) {m : Nat} (hcall : CallOK P call) (c : DCtx P tabs N ops L B) (hok : TrOK call L 0 σ.next e t t.ss.reverse) (hchk : dchk t.ss.reverse (t.ss.length - 1) L t.vs 0 e = true) {f : Fin}
    (hf : (match t.pan with
      | none => match t.ss with
        | τ :: _ => some ⟨.nrm, envAll e L t.vs, d, τ⟩
        | [] => none
      | some (ch, τ) => some ⟨.pan ch, dropE L e, d, τ⟩) = some f) :
    ∀ (fuel : Nat) (listed : Array Bool) (κ : Inj) (s : St) (a : Act) (w : World), listed.size = ops.size → ops.size ≤ fuel + (List.range ops.size).countP (fun j => listed.getD j false) →
      DInv P N ops L e d t ι σ (fun j => listed.getD j false) κ s a w → wpAnyIn F m P .any ops (Post P ι σ N f) fuel listed a w := by
  -- where all is done
  have fin : ∀ {listed : Array Bool} {κ : Inj} {s : St} {a : Act} {w : World}, (∀ j, j < ops.size → listed.getD j false = true) →
      DInv P N ops L e d t ι σ (fun j => listed.getD j false) κ s a w → Post P ι σ N f .normal a w := by
    intro listed κ s a w hall h
    have hk := kS_all (L := L) hall
    have hst := h.st
    rw [hk] at hst
    have hlt := (List.getElem?_eq_some_iff.1 hst).1
    have htot := hok.top
    have htotP := hok.topP
    rw [c.size, Nat.zero_add] at htot htotP
    cases hp : t.pan with
    | some p => have := htotP (by rw [hp]; simp); omega
    | none =>
      have hlen := htot hp
      rw [hp] at hf
      simp only at hf
      split at hf
      · rename_i τ ss hss
        cases hf
        have hτ : t.ss.reverse[nAct L ops.size]? = some τ := by
          have : nAct L ops.size = ss.length := by rw [hss] at hlen; simp at hlen; omega
          rw [this, hss]
          simp
        rw [hτ] at hst
        cases hst
        refine ⟨κ, h.ext, h.rep, ?_, trivial⟩
        have := h.ar
        rw [envSel_all (by rw [hok.len]) fun j hj => by simpa using hall j (by rw [← c.size]; exact hj)] at this
        exact this
      · cases hf
  intro fuel
  induction fuel with
  | zero =>
    intro listed κ s a w hsz hfuel h
    have hall : ∀ j, j < ops.size → listed.getD j false = true := by
      have : (List.range ops.size).countP (fun j => listed.getD j false) = (List.range ops.size).length := by
        have := List.countP_le_length (p := fun j => listed.getD j false) (l := List.range ops.size)
        rw [List.length_range] at this ⊢; omega
      have := List.countP_eq_length.1 this
      intro j hj
      exact this j (List.mem_range.2 hj)
    refine ⟨?_, fin hall h⟩
    cases hr : Region.ready .any ops listed with
    | nil => rfl
    | cons i l =>
      have hm : i ∈ Region.ready .any ops listed := by rw [hr]; exact List.mem_cons_self
      obtain ⟨h1, o, ho, h2⟩ := mem_ready.1 hm
      have hil := (Array.getElem?_eq_some_iff.1 ho).1
      have := hall i hil
      have hlt : i < listed.size := by omega
      simp [hlt] at this h1
      rw [this] at h1; cases h1
  | succ fuel ih =>
    intro listed κ s a w hsz hfuel h
    refine ⟨fun hnil => ?_, fun i hm => ?_⟩
    · refine fin (fun j => ?_) h
      induction j using Nat.strongRecOn with
      | _ j ihj =>
        intro hj
        cases hs : listed.getD j false with
        | true => rfl
        | false =>
          exfalso
          have ho : ops[j]? = some ops[j] := by simp [hj]
          have : j ∈ Region.ready .any ops listed := by
            refine mem_ready.2 ⟨?_, ops[j], ho, fun ed he hb => ?_⟩
            · have hlt : j < listed.size := by omega
              simp [hlt] at hs ⊢; exact hs
            · have := c.back j _ ho ed he hb
              exact ihj ed.on this (by omega)
          rw [hnil] at this; cases this
    · obtain ⟨h1, o, ho, hr⟩ := mem_ready.1 hm
      have hil := (Array.getElem?_eq_some_iff.1 ho).1
      have hlt : i < listed.size := by omega
      have hSi : listed.getD i false = false := by simp [hlt] at h1 ⊢; exact h1
      obtain ⟨x, hx, hcx⟩ := c.comp i o ho
      obtain ⟨hd1, hd2, hg⟩ := compIO_dst hcx
      have hT : ∀ j, j ≠ i → (listed.setIfInBounds i true).getD j false = listed.getD j false := fun j hj => getD_set_ne false (fun e => hj e.symm)
      have hTi : (listed.setIfInBounds i true).getD i false = true := by simp [hlt]
      have hvi : ∃ v, t.vs[i]? = some v := by
        have : i < t.vs.length := by rw [hok.len, c.size]; exact hil
        exact ⟨_, List.getElem?_eq_getElem this⟩
      obtain ⟨v, hv⟩ := hvi
      have hkS := kS_add (L := L) (n := ops.size) (S := fun j => listed.getD j false) (T := fun j => (listed.setIfInBounds i true).getD j false) hil hSi hT hTi
      have hcnt : ops.size ≤ fuel + (List.range ops.size).countP (fun j => (listed.setIfInBounds i true).getD j false) := by
        have key : ∀ {n : Nat}, i < n → (List.range n).countP (fun j => (listed.setIfInBounds i true).getD j false) = (List.range n).countP (fun j => listed.getD j false) + 1 := by
          intro n hn
          induction n with
          | zero => omega
          | succ n ihn =>
            rw [List.range_succ, List.countP_append, List.countP_append, List.countP_singleton, List.countP_singleton]
            by_cases e : i = n
            · subst e
              rw [hTi, hSi]
              have : (List.range i).countP (fun j => (listed.setIfInBounds i true).getD j false) = (List.range i).countP (fun j => listed.getD j false) := by
                refine List.countP_congr fun j hj => ?_
                rw [hT j (by have := List.mem_range.1 hj; omega)]
              rw [this]; simp
            · rw [ihn (by omega), hT n (fun e' => e e'.symm)]; omega
        rw [key hil]; omega
      -- on to the rest
      have go : ∀ {κ' : Inj} {s' : St} {w' : World} {y : Value}, t.ss.reverse[kS L ops.size (fun j => (listed.setIfInBounds i true).getD j false)]? = some s' → κ.le κ' → Ext ι κ' σ s' → Rep P κ' s' w' → gam κ' v = some y →
          possAt (t.ss.length - 1) x (nAct L i) = true →
          (∀ (j : Nat) (x : DO) (u : Nat) (zs : List V), j ≠ i → L[j]? = some x → x.o.h = .alloc u zs → listed.getD j false = false → κ' (σ.next + nAl L j) = none ∧ s'.at (σ.next + nAl L j) = some (.row zs u 0 0 false) ∧ σ.next + nAl L j < s'.next) →
          wpAnyIn F m P .any ops (Post P ι σ N f) fuel (listed.setIfInBounds i true) (a.put o.dst y) w' := by
        intro κ' s' w' y h1 h2 h3 h4 h5 h6 h7
        exact ih _ κ' s' _ w' (by simp [hsz]) hcnt (h.next c ho hx hcx hSi hr hT hTi h1 h2 h3 h4 hv h5 h6 h7)
      -- blocks that are not there yet stay so
      have ghosts : ∀ {κ' : Inj} {s' : St}, Ext κ κ' s s' → ∀ (j : Nat) (x : DO) (u : Nat) (zs : List V), j ≠ i → L[j]? = some x → x.o.h = .alloc u zs → listed.getD j false = false → κ' (σ.next + nAl L j) = none ∧ s'.at (σ.next + nAl L j) = some (.row zs u 0 0 false) ∧ σ.next + nAl L j < s'.next := by
        intro κ' s' he j y u zs _ hy hh hs
        obtain ⟨g1, g2, g3⟩ := h.ghost j y u zs hy hh hs
        obtain ⟨k1, k2⟩ := he.out _ g3 g1
        exact ⟨k1, k2.trans g2, Nat.lt_of_lt_of_le g3 he.next⟩
      have hstlt := (List.getElem?_eq_some_iff.1 h.st).1
      rw [List.length_reverse] at hstlt
      unfold wpOpIn
      rw [ho]
      simp only
      cases hcl : x.o.h.cls with
      | look =>
        have hact : actB L i = false := by simp [actB, hx, isAct, hcl]
        rw [hact] at hkS
        simp only [Bool.false_eq_true, if_false, Nat.add_zero] at hkS
        obtain ⟨r1, r2⟩ := h.range c ho hx hSi hr
        have hlo : x.lo ≤ t.ss.length - 1 := by omega
        have hposs : possAt (t.ss.length - 1) x (nAct L i) = true := by simp only [possAt, hcl]; exact Nat.ble_eq_true_of_le hlo
        have hl := dchk_spec (b := 0) (pp := pp (t.ss.length - 1) L) hchk (fun j y hy => by simp [pp, hy]) i x v hx hv hcl hlo _ s r1 r2 h.st
        rw [← look1_congr (h.envP c ho hx hSi hr)] at hl
        cases hw : wanted (envSel (fun j => listed.getD j false) 0 e L t.vs) x.o.guard with
        | none => simp only [look1, hw] at hl; cases hl
        | some b =>
          cases b with
          | false =>
            rw [wanted_sim hg h.ar hw]
            simp only [look1, hw, Option.some.injEq] at hl
            simp only [Bool.false_eq_true, if_false]
            exact ⟨fun f _ => hF.fn f, go (by rw [hkS]; exact h.st) (Inj.le_refl κ) h.ext h.rep (by rw [← hl]; exact gam_undef κ) hposs (ghosts (Ext.refl κ s))⟩
          | true =>
            rw [wanted_sim hg h.ar hw]
            simp only [if_true]
            refine look_sim hcx hcl (h.ar.ra h.rep) h.rep hw hl _ _ (fun κ' y w' e1 e2 e3 => ?_) hF
            exact go (by rw [hkS]; exact h.st) e1.le (h.ext.trans e1) e2 e3 hposs (ghosts e1)
      | alloc =>
        have hact : actB L i = false := by simp [actB, hx, isAct, hcl]
        rw [hact] at hkS
        simp only [Bool.false_eq_true, if_false, Nat.add_zero] at hkS
        have hposs : possAt (t.ss.length - 1) x (nAct L i) = true := by simp [possAt, hcl]
        obtain ⟨hgn, hva⟩ := hok.alloc i x hx hcl
        rw [hv] at hva
        cases hva
        obtain ⟨u, zs, hh⟩ := cls_alloc hcl
        obtain ⟨g1, g2, g3⟩ := h.ghost i x u zs hx hh hSi
        rw [hgn] at hg
        have hgo : o.guard = none := by
          unfold compG at hg
          split at hg
          · assumption
          · split at hg
            · split at hg <;> cases hg
            · cases hg
        have hwn : Region.wanted o (yielded ops a.tmps) = true := by simp [Region.wanted, hgo]
        rw [hwn]
        simp only [if_true]
        have hcx' := hcx
        unfold compIO at hcx'
        split at hcx'
        case h_2 => cases hcx'
        rename_i hd xs hcH
        split at hcx'
        case h_2 => cases hcx'
        injection hcx' with hcx'
        rw [← hcx'] at hh
        simp only at hh
        subst hh
        obtain ⟨l, w', e1, e2, e3⟩ := alloc_wake hcH (ρ := a.eval) h.rep g1 g3 g2
        refine ⟨fun f _ => hF.fn f, ?_⟩
        rw [Oper.semAt_eq _ _ _ (compH_noDefer hcH (fun e => by cases e)), e1]
        show wpAnyIn F m P .any ops (Post P ι σ N f) fuel (listed.setIfInBounds i true) (a.put o.dst _) w'
        refine go (s' := s) (by rw [hkS]; exact h.st) (Inj.le_add g1) ⟨Inj.le_trans h.ext.le (Inj.le_add g1), h.ext.next, fun m hm hn => ?_⟩ e2 e3 hposs ?_
        · obtain ⟨k1, k2⟩ := h.ext.out m hm hn
          exact ⟨by rw [Inj.add_ne (by omega)]; exact k1, k2⟩
        · intro j y u' zs' hj hy hhy hs
          obtain ⟨k1, k2, k3⟩ := h.ghost j y u' zs' hy hhy hs
          refine ⟨?_, k2, k3⟩
          rw [Inj.add_ne ?_]
          · exact k1
          · -- two blocks that are made have two names
            intro e'
            have hne : nAl L j = nAl L i := by omega
            have mono : ∀ {p q : Nat} {z : DO}, p < q → L[p]? = some z → z.o.h.cls = .alloc → nAl L p < nAl L q := by
              intro p q z hpq hz hcz
              have step : nAl L (p + 1) = nAl L p + 1 := by
                unfold nAl
                rw [List.take_add_one, List.countP_append, hz]
                simp [isAl, hcz]
              have le : ∀ {r : Nat}, p + 1 ≤ r → nAl L (p + 1) ≤ nAl L r := by
                intro r hr
                unfold nAl
                exact (List.take_sublist_take_left hr).countP_le
              have := le hpq
              omega
            rcases Nat.lt_or_gt_of_ne hj with hlt' | hgt
            · have := mono hlt' hy (by rw [hhy]; rfl); omega
            · have := mono hgt hx hcl; omega
      | act =>
        have hact : actB L i = true := by simp [actB, hx, isAct, hcl]
        rw [hact] at hkS
        simp only [if_true] at hkS
        have hk := h.count c ho hact hSi hr
        have hst := h.st
        rw [hk] at hst hstlt
        rcases Nat.lt_or_ge (nAct L i + 1) t.ss.length with hlt' | hge
        · have hposs : possAt (t.ss.length - 1) x (nAct L i) = true := by
            simp only [possAt, hcl]; exact Nat.ble_eq_true_of_le (show nAct L i + 1 ≤ t.ss.length - 1 by omega)
          obtain ⟨s0, s', v', a1, a2, a3, a4⟩ := hok.act i x hx hcl (by simpa using hlt')
          rw [Nat.zero_add] at a1 a2
          rw [hst] at a1; cases a1
          rw [hv] at a3; cases a3
          have hen := h.env c hok.len ho hx hSi hr
          rw [← (names_congr hen).1, ← step_congr hen] at a4
          rcases a4 with ⟨hw, rfl, rfl⟩ | ⟨hw, hs⟩
          · rw [wanted_sim hg h.ar hw]
            simp only [Bool.false_eq_true, if_false]
            exact ⟨fun f _ => hF.fn f, go (by rw [hkS, hk]; exact a2) (Inj.le_refl κ) h.ext h.rep (gam_undef κ) hposs (ghosts (Ext.refl κ _))⟩
          · rw [wanted_sim hg h.ar hw]
            simp only [if_true]
            refine step_sim (d := d) hF hcall hcx (.inr (step_noDfr hs (fun _ _ _ _ e => by cases e))) (h.ar.ra h.rep) h.rep hs _ _ fun κ' y w' e1 e2 e3 => ?_
            exact go (by rw [hkS, hk]; exact a2) e1.le (h.ext.trans e1) e2 e3 hposs (ghosts e1)
        · obtain ⟨ch, τ, s0, p1, p2, p3, p4⟩ := hok.pan i x hx hcl (by simp; omega)
          rw [Nat.zero_add] at p2
          rw [hst] at p2; cases p2
          have hen := h.env c hok.len ho hx hSi hr
          rw [← (names_congr hen).1] at p3
          rw [← step_congr hen] at p4
          rw [p1] at hf
          simp only [Option.some.injEq] at hf
          subst hf
          rw [wanted_sim hg h.ar p3]
          simp only [if_true]
          refine step_sim (d := d) hF hcall hcx (.inr (step_noDfr p4 (fun _ _ _ _ e => by cases e))) (h.ar.ra h.rep) h.rep p4 _ _ fun κ' y w' e1 e2 e3 => ?_
          refine ⟨κ', h.ext.trans e1, e2, ⟨h.ar.size, fun {u v} hu => ?_, h.ar.dfr.mono e1.le⟩, e3⟩
          obtain ⟨d1, d2⟩ := dropE_get hu
          refine (h.ar.mono e1.le).env (t := u) (v := v) ?_
          rw [envSel_none fun j y hy hd => absurd hd (isDst_none d1 hy)]
          exact d2

end
end Go.Den
end

section
/- Code: the interpreter's run of it is the model's. -/
namespace Go.Den

section
variable [Gh] {P : Program}

theorem beq_self' (n : Nat) : Nat.beq n n = true := Nat.beq_refl n

theorem compOps_len {tabs : String → List Nat} {N : Nat} {ops : Array Oper} : ∀ {l : List Oper} {xs : List Ins}, compOps P tabs N ops l = some xs → xs.length = l.length
  | [], xs, h => by cases h; rfl
  | o :: l, xs, h => by
    simp only [compOps] at h
    split at h
    · split at h
      · rename_i hr; cases h; simp [compOps_len hr]
      · cases h
    · cases h

theorem compOps_get {tabs : String → List Nat} {N : Nat} {ops : Array Oper} : ∀ {l : List Oper} {xs : List Ins}, compOps P tabs N ops l = some xs → ∀ (i : Nat) (o : Oper), l[i]? = some o →
    ∃ x, xs[i]? = some x ∧ compIO P tabs N ops o = some x
  | [], xs, h, i, o, hi => by simp at hi
  | o' :: l, xs, h, i, o, hi => by
    simp only [compOps] at h
    split at h
    · rename_i x hx
      split at h
      · rename_i xs' hr
        cases h
        cases i with
        | zero => simp only [List.getElem?_cons_zero, Option.some.injEq] at hi; subst hi; exact ⟨x, rfl, hx⟩
        | succ i => simpa using compOps_get hr i o (by simpa using hi)
      · cases h
    · cases h

theorem memB_mem {t : Nat} : ∀ {l : List Nat}, t ∈ l → memB t l = true
  | [], h => by simp at h
  | u :: l, h => by
    simp only [memB]
    split
    · rfl
    · rename_i hb
      rcases List.mem_cons.1 h with rfl | h
      · rw [beq_self'] at hb; cases hb
      · exact memB_mem h

theorem edgesBack_get : ∀ {l : List Oper} {i : Nat}, edgesBack i l = true → ∀ (j : Nat) (o : Oper), l[j]? = some o → ∀ e ∈ o.after, Region.binds .any e = true → e.on < i + j
  | [], _, _, j, o, h => by simp at h
  | o' :: l, i, h, j, o, hj => by
    simp only [edgesBack, Bool.and_eq_true] at h
    cases j with
    | zero =>
      simp only [List.getElem?_cons_zero, Option.some.injEq] at hj; subst hj
      intro e he hb
      have := List.all_eq_true.1 h.1 e (by simpa using he)
      rw [hb] at this
      simpa using this
    | succ j =>
      intro e he hb
      have := edgesBack_get h.2 j o (by simpa using hj) e he hb
      omega

theorem compDreg_ctx {tabs : String → List Nat} {N : Nat} {ops : Array Oper} {L : List DO} (h : compDreg P tabs N ops = some L) :
    P.follows .mixedOrders = true ∧ DCtx P tabs N ops L (fun i j => ((masks ops.toList []).getD i 0).testBit j) := by
  unfold compDreg at h
  split at h
  case h_2 => cases h
  rename_i xs hm hxs
  split at h
  case h_2 => cases h
  rename_i hb
  cases h
  simp only [Bool.and_eq_true] at hb
  obtain ⟨⟨b1, b2⟩, b3⟩ := hb
  refine ⟨hm, ?_⟩
  generalize hms : masks ops.toList [] = ms at *
  have hlen : xs.length = ops.size := by rw [compOps_len hxs]; simp
  have hget : ∀ (i : Nat) (x : DO), (xs.zipIdx.map fun (x, i) => (⟨x, loOf ms xs i, hiOf ms xs i⟩ : DO))[i]? = some x ↔ xs[i]? = some x.o ∧ x.lo = loOf ms xs i ∧ x.hi = hiOf ms xs i := by
    intro i x
    rw [List.getElem?_map, List.getElem?_zipIdx]
    cases hx : xs[i]? with
    | none => simp
    | some y =>
      simp only [Option.map_some, Nat.zero_add, Option.some.injEq]
      constructor
      · rintro rfl; exact ⟨rfl, rfl, rfl⟩
      · rintro ⟨h1, h2, h3⟩
        obtain ⟨o, lo, hi⟩ := x
        simp only at h1 h2 h3
        subst h1 h2 h3
        rfl
  generalize hL : (xs.zipIdx.map fun (x, i) => (⟨x, loOf ms xs i, hiOf ms xs i⟩ : DO)) = L at *
  have hact : ∀ j, isActB xs j = actB L j := by
    intro j
    unfold isActB actB
    cases hx : xs[j]? with
    | none =>
      have : L[j]? = none := by
        cases hl : L[j]? with
        | none => rfl
        | some x => rw [((hget j x).1 hl).1] at hx; cases hx
      rw [this]
    | some y =>
      have : L[j]? = some ⟨y, loOf ms xs j, hiOf ms xs j⟩ := (hget j _).2 ⟨hx, rfl, rfl⟩
      rw [this]
      rfl
  have hmok : MOK ops.toList ms := by
    rw [← hms]
    exact masks_ok (l := ops.toList) rfl b1 (fun i j hi => by simp at hi)
  have hml : ms.length = ops.size := by rw [← hms, masks_len]; simp
  refine ⟨?_, fun i o ho => ?_, fun i j hi hb => ?_, fun i o ho e he hb => ?_, fun i j x y t hx hy hne hd ht => ?_, fun i j hlt hi hj => ?_, fun i x hx => ?_, fun i x hx => ?_⟩
  · rw [← hL]; simp [hlen]
  · obtain ⟨x, h1, h2⟩ := compOps_get hxs i o (by simpa using ho)
    exact ⟨⟨x, _, _⟩, (hget i _).2 ⟨h1, rfl, rfl⟩, h2⟩
  · obtain ⟨o, h1, h2⟩ := hmok i j (by omega) hb
    exact ⟨o, by simpa using h1, h2⟩
  · have := edgesBack_get b1 i o (by simpa using ho) e he hb
    omega
  · have hx' := ((hget i x).1 hx).1
    have hy' := ((hget j y).1 hy).1
    have hi := (List.getElem?_eq_some_iff.1 hx').1
    have hj := (List.getElem?_eq_some_iff.1 hy').1
    have h1 := List.all_eq_true.1 b2 j (List.mem_range.2 hj)
    rw [hy'] at h1
    simp only [Option.bind_some, hd] at h1
    have h2 := List.all_eq_true.1 h1 i (List.mem_range.2 hi)
    rw [hx'] at h2
    have hne' : Nat.beq i j = false := by
      cases hb : Nat.beq i j with
      | false => rfl
      | true => exact absurd (Nat.eq_of_beq_eq_true hb) hne
    rw [hne'] at h2
    simp only [memB_mem ht] at h2
    simpa using h2
  · have hil : i < xs.length := by
      unfold actB at hi
      rw [hlen, ← (by rw [← hL]; simp [hlen] : L.length = ops.size)]
      cases hl : L[i]? with
      | none => rw [hl] at hi; cases hi
      | some x => exact (List.getElem?_eq_some_iff.1 hl).1
    have hjl : j < xs.length := by
      unfold actB at hj
      rw [hlen, ← (by rw [← hL]; simp [hlen] : L.length = ops.size)]
      cases hl : L[j]? with
      | none => rw [hl] at hj; cases hj
      | some x => exact (List.getElem?_eq_some_iff.1 hl).1
    have h1 := List.all_eq_true.1 b3 j (List.mem_range.2 hjl)
    rw [hact, hj] at h1
    simp only [Bool.not_true, Bool.false_or] at h1
    have h2 := List.all_eq_true.1 h1 i (List.mem_range.2 hlt)
    rw [hact, hi] at h2
    simpa using h2
  · rw [((hget i x).1 hx).2.1, loOf, hlen, kS]
    simp only [hact]
  · rw [((hget i x).1 hx).2.2, hiOf, hlen, kS]
    simp only [hact]

theorem dreg_sim {F : Fence} (hF : FOk F) {m : Nat} {call : Call} (hcall : CallOK P call) {tabs : String → List Nat} {N : Nat} {ops : Array Oper} {L : List DO} (hc : compDreg P tabs N ops = some L) {ι : Inj} {e : E} {d : D} {σ : St} {f : Fin} {a : Act} {w : World} {id : Nat}
    (hr : dreg call L e d σ = some f) (har : AR ι N e d a) (hrep : Rep P ι σ w) : (Code.region id ops true).wpIn F m P (Post P ι σ N f) a w := by
  obtain ⟨hm, c⟩ := compDreg_ctx hc
  refine wpIn_region_any hm ?_
  unfold dreg at hr
  split at hr
  · cases hr
  rename_i t ht
  split at hr
  · cases hr
  rename_i hchk
  obtain ⟨hok, hpre⟩ := dtr_spec ht rfl
  obtain ⟨p1, p2, p3, p4⟩ := prealloc_spec (l := L) hrep
  refine dreg_any hF hcall c hok hchk hr ops.size _ ι (prealloc L σ) a _ (by simp) (Nat.le_add_right _ _) ?_
  have hS : ∀ j, (Array.replicate ops.size false).getD j false = false := fun j => by
    rcases Nat.lt_or_ge j ops.size with h | h <;> simp [h]
  have hk0 : kS L ops.size (fun j => (Array.replicate ops.size false).getD j false) = 0 := by
    rw [kS_congr (T := fun j => decide (j < 0)) (fun j _ _ => by rw [hS]; simp)]
    rw [kS_lt (Nat.zero_le _)]; rfl
  refine ⟨?_, ⟨Inj.le_refl ι, p2, fun i hi hn => ⟨hn, p3 i hi⟩⟩, p1.same rfl ⟨rfl, rfl⟩, ?_, fun j x _ hj => ?_, fun j x u zs hx hh _ => ?_, fun i o _ hi => ?_⟩
  · rw [hk0, hpre 0 (Nat.le_refl 0)]; rfl
  · exact har.congr fun u => envSel_none fun j x _ _ => hS _
  · rw [hS] at hj; cases hj
  · obtain ⟨q1, q2⟩ := p4 j x u zs hx hh
    refine ⟨?_, q2, q1⟩
    cases hi : ι (σ.next + nAl L j) with
    | none => rfl
    | some l => have := hrep.low hi; omega
  · rw [hS] at hi; cases hi

theorem keepE_get {e : E} {t : Nat} {v : V} : ∀ {l : List Nat}, E.get (keepE e l) t = some v → E.get e t = some v
  | [], h => by simp [keepE, E.get] at h
  | u :: l, h => by
    simp only [keepE] at h
    split at h
    · rename_i x hx
      simp only [E.get] at h
      split at h
      · rename_i hb
        have := Nat.eq_of_beq_eq_true hb
        subst this
        rw [hx]; exact h
      · exact keepE_get h
    · exact keepE_get h

theorem AR.keep {ι : Inj} {N : Nat} {e : E} {d : D} {a : Act} (r : AR ι N e d a) (k : Option (List Nat)) : AR ι N (keep e k) d a :=
  ⟨r.size, fun {t v} ht => r.env (by
    cases k with
    | none => exact ht
    | some l => exact keepE_get ht), r.dfr⟩

/-- A piece of code whose end is no normal one. -/
def X.isNrm : X → Bool
  | .nrm => true
  | _ => false

theorem Post.then {ι : Inj} {σ : St} {N : Nat} {f : Fin} {x : Exit} {a : Act} {w : World} (h : Post P ι σ N f x a w) {K : Act → World → Prop} {Q : Exit → Act → World → Prop}
    (h1 : f.x = .nrm → x = .normal → K a w) (h2 : f.x ≠ .nrm → x ≠ .normal → Q x a w) : Exit.then K Q x a w := by
  obtain ⟨κ, _, _, _, hx⟩ := h
  cases hf : f.x <;> rw [hf] at hx <;> cases x <;> simp only [XRel] at hx <;> simp only [Exit.then]
  all_goals first
    | exact h1 hf rfl
    | exact h2 (by rw [hf]; simp) (by simp)


/-! ### Loops over functions -/

theorem stepR_scope {b : Frame} {a : Act} {k : List Item} {cs : List Frame} {w : World} {c : Code} : Go.step P (lone (b.atR a (.code (.scope c) :: k)) cs w) = .next (lone (b.atR a (.code c :: .inScope c :: k)) cs w) :=
  step_lone_go (by simp [stepG, stepG.exec, Frame.atR])
theorem stepR_inScope {b : Frame} {a : Act} {k : List Item} {cs : List Frame} {w : World} {c : Code} : Go.step P (lone (b.atR a (.inScope c :: k)) cs w) = .next (lone (b.atR a k) cs w) :=
  step_lone_go (by simp [stepG, stepG.exec, Frame.atR])

theorem wpIn_scope_straight {F : Fence} {m : Nat} {c : Code} {Q : Exit → Act → World → Prop} {a : Act} {w : World} (h : c.wpIn F m P (Exit.noGoto Q) a w) : (Code.scope c).wpIn F m P Q a w := by
  intro b k cs hro hb hr
  have h0 : (lone (b.atR a (.code (.scope c) :: k)) cs w).fenced P F := fenced_calm hb hr rfl
  obtain ⟨e, a₁, w₁, hq, harr⟩ := h b (.inScope c :: k) cs hro hb hr
  cases e with
  | normal => exact ⟨.normal, a₁, w₁, hq, .head h0 stepR_scope (StepsIn.trans harr (.one (fenced_calm hb hr rfl) stepR_inScope))⟩
  | exit id =>
    have hx : exitTo id (.inScope c :: k) = exitTo id k := by simp [exitTo]
    exact ⟨_, a₁, w₁, hq, fun k' hk => .head h0 stepR_scope (harr.1 k' (by rw [hx]; exact hk)),
      fun hr' hk => let ⟨k₁, h1, h2⟩ := harr.2 hr' (by rw [hx]; exact hk); ⟨k₁, h1, .head h0 stepR_scope h2⟩⟩
  | goto l => exact hq.elim
  | ret => exact ⟨_, a₁, w₁, hq, .of_steps (.one h0 stepR_scope) harr⟩
  | panic ch => exact ⟨_, a₁, w₁, hq, .of_steps (.one h0 stepR_scope) harr⟩
  | outgrown => exact ⟨_, a₁, w₁, hq, .of_steps (.one h0 stepR_scope) harr⟩

def codeOf : Nat → Option Code
  | 0 => none
  | 1 => some .ret
  | n + 2 => some (.exit n)

/-- A loop's record, by how the last round was left. -/
def recOf (r : Loop) (c : Nat) : Loop := { r with state := (match c with | 0 => .ready | _ => .done), pending := codeOf c }

theorem rw_not_loop {ι : Inj} {l : Loc} {H : Array Obj} {o : Blk} (h : Holds P ι l H o) (hr : o.isLp = false) (r : Loop) : H[l.b]? ≠ some (.loop r) := by
  intro e
  cases o with
  | row => obtain ⟨_, _, h1, _⟩ := h; rw [e] at h1; cases h1
  | mp => obtain ⟨_, h1, _⟩ := h; rw [e] at h1; cases h1
  | lp => simp [Blk.isLp] at hr
  | df => have : H[l.b]? = some (.deferred (some [])) := h; rw [e] at this; cases this

theorem rw_isLp {o : Blk} (h : o.rw = true) : o.isLp = false := by cases o <;> simp_all [Blk.rw, Blk.isLp]

end

/-! #### A relation's parts, its ghost being told -/

section
variable {P : Program}

theorem RepOf.low {G : Gh} {ι : Inj} {σ : St} {w : World} (h : @Rep P G ι σ w) {i : Nat} {l : Loc} (hi : ι i = some l) : i < σ.next := @Rep.low P G ι σ w h i l hi
theorem RepOf.obj {G : Gh} {ι : Inj} {σ : St} {w : World} (h : @Rep P G ι σ w) {i : Nat} {l : Loc} {o : Blk} (hi : ι i = some l) (ho : σ.at i = some o) : Holds P ι l w.heap o := @Rep.obj P G ι σ w h i l o hi ho
theorem RepOf.kept {G : Gh} {ι : Inj} {σ : St} {w : World} (h : @Rep P G ι σ w) : G.keep σ w := @Rep.kept P G ι σ w h
theorem RepOf.own {G : Gh} {ι : Inj} {σ : St} {w : World} (h : @Rep P G ι σ w) {i : Nat} {l : Loc} {o : Blk} (hi : ι i = some l) (ho : σ.at i = some o) (hr : o.rw = true) : G.pub l.b := @Rep.own P G ι σ w h i l o hi ho hr
theorem RepOf.fixd {G : Gh} {ι : Inj} {σ : St} {w : World} (h : @Rep P G ι σ w) {i : Nat} (hi : G.fix i) : i < σ.next ∧ ∃ o, σ.at i = some o ∧ o.isLp = true := @Rep.fixd P G ι σ w h i hi
theorem RepOf.locd {G : Gh} {ι : Inj} {σ : St} {w : World} (h : @Rep P G ι σ w) {i : Nat} {l : Loc} (hi : G.loc i l) : ι i = some l := @Rep.locd P G ι σ w h i l hi
theorem RepOf.org {G : Gh} {ι : Inj} {σ : St} {w : World} (h : @Rep P G ι σ w) {i : Nat} {l : Loc} {cs : List V} {e : Nat} (hi : ι i = some l) (ho : σ.at i = some (.row cs e 0 0 false)) : l.off = 0 := @Rep.org P G ι σ w h i l cs e hi ho
theorem RepOf.inj {G : Gh} {ι : Inj} {σ : St} {w : World} (h : @Rep P G ι σ w) {i j : Nat} {l m : Loc} {oi oj : Blk} (hi : ι i = some l) (hj : ι j = some m) (hoi : σ.at i = some oi) (hoj : σ.at j = some oj) (hne : i ≠ j) (hr : oi.rw = true) : l.b ≠ m.b := @Rep.inj P G ι σ w h i j l m oi oj hi hj hoi hoj hne hr
theorem RepOf.glob {G : Gh} {ι : Inj} {σ : St} {w : World} (h : @Rep P G ι σ w) (g : Nat) (hg : g < P.globals.size) : ι g = some ⟨g, 0, 0⟩ := @Rep.glob P G ι σ w h g hg

theorem Ext.tweak {ι κ : Inj} {σ τ υ : St} (h : Ext ι κ σ τ) {k : Nat} {l : Loc} (hu : ∀ i, i ≠ k → υ.at i = τ.at i) (hn : υ.next = τ.next) (hk : κ k = some l) : Ext ι κ σ υ :=
  ⟨h.le, by rw [hn]; exact h.next, fun i hi hno => by
    obtain ⟨h1, h2⟩ := h.out i hi hno
    exact ⟨h1, by rw [hu i (fun e => by subst e; rw [hk] at h1; cases h1)]; exact h2⟩⟩

/-- While a loop runs: its record is ready, or done. -/
@[reducible] def Gh.loop (G : Gh) (ι : Inj) (k L : Nat) (r : Loop) : Gh where
  keep σ w := G.keep σ w ∧ ∃ c, σ.at k = some (.lp c) ∧ w.heap[L]? = some (.loop (recOf r c))
  pub j := G.pub j ∧ j ≠ L
  fix i := G.fix i ∨ i = k
  loc i l := G.loc i l ∨ ι i = some l
  fresh h hk := ⟨G.fresh h.1 hk, fun e => by
    obtain ⟨_, c, _, h2⟩ := h
    have := (Array.getElem?_eq_some_iff.1 h2).1
    omega⟩
  turn h hh hs hf := by
    obtain ⟨h0, c, h1, h2⟩ := h
    have := (Array.getElem?_eq_some_iff.1 h2).1
    exact ⟨G.turn h0 (fun j hj hp => hh j hj (fun q => hp q.1)) hs (fun i hi => hf i (.inl hi)), c, by rw [hf k (.inr rfl)]; exact h1, by rw [hh L this (fun q => q.2 rfl)]; exact h2⟩

/-- While a round runs. -/
@[reducible] def Gh.busy (G : Gh) (ι : Inj) (k L : Nat) (r : Loop) : Gh where
  keep σ w := G.keep σ w ∧ w.heap[L]? = some (.loop { recOf r 0 with state := .busy })
  pub j := G.pub j ∧ j ≠ L
  fix i := G.fix i ∨ i = k
  loc i l := G.loc i l ∨ ι i = some l
  fresh h hk := ⟨G.fresh h.1 hk, fun e => by
    have := (Array.getElem?_eq_some_iff.1 h.2).1
    omega⟩
  turn h hh hs hf := by
    obtain ⟨h0, h2⟩ := h
    have := (Array.getElem?_eq_some_iff.1 h2).1
    exact ⟨G.turn h0 (fun j hj hp => hh j hj (fun q => hp q.1)) hs (fun i hi => hf i (.inl hi)), by rw [hh L this (fun q => q.2 rfl)]; exact h2⟩

theorem Rep.swap {G G' : Gh} {ι : Inj} {σ τ : St} {w w' : World} (h : @Rep P G ι σ w) {k L : Nat} {lc : Loc} (hlc : ι k = some lc) (hlb : lc.b = L)
    (hw : ∀ j, j ≠ L → w'.heap[j]? = w.heap[j]?) (h0 : ∃ r, w.heap[L]? = some (.loop r)) (h1 : ∃ r, w'.heap[L]? = some (.loop r))
    (hτ : ∀ i, i ≠ k → τ.at i = σ.at i) (hk : ∀ o, τ.at k = some o → o.isLp = true) (hnx : τ.next = σ.next) (keep' : G'.keep τ w') (own' : ∀ b, G.pub b → b ≠ L → G'.pub b)
    (fixd' : ∀ {i}, G'.fix i → i < τ.next ∧ ∃ o, τ.at i = some o ∧ o.isLp = true) (locd' : ∀ {i l}, G'.loc i l → ι i = some l) : @Rep P G' ι τ w' := by
  obtain ⟨r0, h0⟩ := h0
  refine @Rep.mk P G' ι τ w' (fun {i l} hi => by rw [hnx]; exact RepOf.low h hi) (fun {i l o} hi ho => ?_) keep' (fun {i l o} hi ho hr => ?_) fixd' locd' (fun {i l cs e} hi ho => ?_) (fun {i j l m oi oj} hi hj hoi hoj hne hr => ?_) (fun g hg => RepOf.glob h g hg)
  · by_cases e : i = k
    · subst e
      have hl := hk o ho
      rw [hlc] at hi; cases hi
      cases o <;> simp [Blk.isLp] at hl
      obtain ⟨r, hr⟩ := h1
      exact ⟨r, by rw [hlb]; exact hr⟩
    · rw [hτ i e] at ho
      have hh := RepOf.obj h hi ho
      by_cases eL : l.b = L
      · cases hlp : o.isLp with
        | false => exact absurd (by rw [eL]; exact h0) (rw_not_loop hh hlp r0)
        | true =>
          cases o <;> simp [Blk.isLp] at hlp
          obtain ⟨r, hr⟩ := h1
          exact ⟨r, by rw [eL]; exact hr⟩
      · exact hh.heap (hw _ eL)
  · have e : i ≠ k := fun e => by subst e; have := hk o ho; rw [rw_isLp hr] at this; cases this
    rw [hτ i e] at ho
    exact own' _ (RepOf.own h hi ho hr) (fun eL => rw_not_loop (RepOf.obj h hi ho) (rw_isLp hr) r0 (by rw [eL]; exact h0))
  · have e' : i ≠ k := fun e' => by subst e'; have := hk _ ho; cases this
    rw [hτ i e'] at ho
    exact RepOf.org h hi ho
  · have e : i ≠ k := fun e => by subst e; have := hk oi hoi; rw [rw_isLp hr] at this; cases this
    rw [hτ i e] at hoi
    by_cases e' : j = k
    · subst e'
      rw [hlc] at hj; cases hj
      rw [hlb]
      exact fun eL => rw_not_loop (RepOf.obj h hi hoi) (rw_isLp hr) r0 (by rw [eL]; exact h0)
    · rw [hτ j e'] at hoj
      exact RepOf.inj h hi hj hoi hoj hne hr

theorem putAll_len : ∀ {ps : List Nat} {vs : List V} {e e' : E}, putAll e ps vs = some e' → ps.length = vs.length
  | [], [], _, _, _ => rfl
  | [], _ :: _, _, _, h => by simp [putAll] at h
  | _ :: _, [], _, _, h => by simp [putAll] at h
  | p :: ps, v :: vs, e, e', h => by simp only [putAll] at h; simp [putAll_len h]

theorem putAll_env {ι : Inj} {N : Nat} : ∀ {ps : List Nat} {vs : List V} {xs : List Value} {e e' : E} {T : Array Value}, putAll e ps vs = some e' → gams ι vs = some xs → (ps.all fun t => Nat.blt t N) = true → N ≤ T.size →
    (∀ {t v}, E.get e t = some v → ∃ x, T[t]? = some x ∧ gam ι v = some x) →
    N ≤ ((ps.zip xs).foldl (fun t (p, v) => t.setIfInBounds p v) T).size ∧ ∀ {t v}, E.get e' t = some v → ∃ x, ((ps.zip xs).foldl (fun t (p, v) => t.setIfInBounds p v) T)[t]? = some x ∧ gam ι v = some x
  | [], [], xs, e, e', T, h, hx, _, hN, he => by
    simp [gams] at hx; subst hx
    simp only [putAll, Option.some.injEq] at h; subst h
    exact ⟨hN, he⟩
  | [], _ :: _, _, _, _, _, h, _, _, _, _ => by simp [putAll] at h
  | _ :: _, [], _, _, _, _, h, _, _, _, _ => by simp [putAll] at h
  | p :: ps, v :: vs, xs, e, e', T, h, hx, hp, hN, he => by
    obtain ⟨x, xs', h1, h2, rfl⟩ := gams_cons.1 hx
    simp only [putAll] at h
    simp only [List.all_cons, Bool.and_eq_true] at hp
    have hpN : p < N := by simpa [Nat.blt_eq] using hp.1
    simp only [List.zip_cons_cons, List.foldl_cons]
    refine putAll_env h h2 hp.2 (by simpa using hN) (fun {t u} hu => ?_)
    simp only [E.get] at hu
    split at hu
    · rename_i hb
      have := Nat.eq_of_beq_eq_true hb
      subst this
      cases hu
      exact ⟨x, by rw [Array.getElem?_setIfInBounds_self_of_lt (by omega)], h1⟩
    · rename_i hb
      obtain ⟨y, y1, y2⟩ := he hu
      exact ⟨y, by rw [Array.getElem?_setIfInBounds_ne (fun e => by subst e; simp at hb)]; exact y1, y2⟩

theorem readyV_at {σ : St} {k : Nat} (h : readyV σ k = true) : σ.at k = some (.lp 0) := by
  unfold readyV at h
  split at h
  · assumption
  · cases h

theorem noY_ok [Gh] : CallOK P noY := fun _ _ _ _ _ _ _ _ h => by cases h

theorem recOf_busy_end {r : Loop} {c : Nat} {jump : Option Code} (hj : jump = codeOf c) :
    ({ ({ recOf r 0 with state := .busy } : Loop) with state := if jump.isNone then .ready else .done, pending := jump } : Loop) = recOf r c := by
  subst hj
  match c with
  | 0 => rfl
  | 1 => rfl
  | n + 2 => rfl

theorem run_callFunc {f : Nat} {fn : Func} {c : Code} {xs : Array Value} {w : World} (hf : P.funcs[f]? = some fn) (hn : (fn.name == "runtime.NumGoroutine") = false) (hb : fn.body = some c) :
    (callFunc f xs).run P w = .ok (.enter f xs) w := by
  unfold callFunc
  simp [hf, hb, show ¬ fn.name = "runtime.NumGoroutine" from by simpa using hn]

theorem range_sim [G : Gh] {cy : Call → Call} (hcy : ∀ (G : Gh) y, @CallOK G P y → @CallOK G P (cy y)) {N : Nat} {tabs : String → List Nat} {n m : Nat} {g : Operand} {v : A} {ps : Array Tmp} {ca cb : Code} {X1 X2 : C} {ι : Inj} {e : E} {d : D} {σ : St} {f : Fin} {a : Act} {w : World}
    (hv : compA P.globals.size g = some v) (hits : itsOK P (tabs "range") = true) (hps : (ps.toList.all fun t => Nat.blt t N) = true)
    (hr : rangeV cy (run cy noY n X1) (run cy noY n X2) (tabs "range") v ps.toList e d σ = some f) (har : AR ι N e d a) (hrep : Rep P ι σ w)
    (ha : ∀ (G : Gh) (l : Nat) {ι : Inj} {e : E} {d : D} {σ : St} {f : Fin} {a : Act} {w : World}, run cy noY n X1 e d σ = some f → AR ι N e d a → @Rep P G ι σ w → ca.wpIn (Fence.wide.inRound l) 0 P (@Post G P ι σ N f) a w)
    (hb : ∀ (G : Gh) (l : Nat) {ι : Inj} {e : E} {d : D} {σ : St} {f : Fin} {a : Act} {w : World}, run cy noY n X2 e d σ = some f → AR ι N e d a → @Rep P G ι σ w → cb.wpIn (Fence.wide.inRound l) 0 P (@Post G P ι σ N f) a w) :
    (Code.rangeFunc g ps ca cb).wpIn Fence.wide m P (Post P ι σ N f) a w := by
  unfold rangeV at hr
  split at hr
  case h_2 => cases hr
  rename_i gf cap hev
  split at hr
  case h_1 => cases hr
  rename_i hin
  obtain ⟨fnG, cG, hfG, hnG, hbG, hltG⟩ := itsOK_spec hits hin
  split at hr
  case h_2 => cases hr
  rename_i rv τ hcall
  split at hr
  case h_2 => cases hr
  rename_i c hτk
  cases hr
  obtain ⟨FF, CC, hFF, hCC, eg⟩ := gam_func (har.ra hrep _ _ _ hv hev)
  simp [gams] at hFF; subst hFF
  refine wpIn_rangeFunc fun fn _ => ?_
  -- the two blocks
  let r : Loop := { state := .ready, pending := none, fn := fn, tmps := a.tmps, params := ps, assign := ca, body := cb, defers := w.heap.size }
  let W0 := w.alloc (.deferred (some []))
  let W1 := W0.alloc (.loop r)
  let L := w.heap.size + 1
  let k := σ.next + 1
  let ι1 := ι.add σ.next ⟨w.heap.size, 0, 0⟩
  let ι2 := ι1.add k ⟨L, 0, 0⟩
  let σ1 := σ.new .df
  let σ2 := σ1.new (.lp 0)
  have hr1 : Rep P ι1 σ1 W0 := hrep.alloc (w' := W0) (.deferred (some [])) .df 0 rfl ⟨rfl, rfl⟩ (by show (w.heap.push _)[w.heap.size]? = _; simp)
  have hs0 : W0.heap.size = L := by show (w.heap.push _).size = _; simp [L]
  have hn1 : σ1.next = k := rfl
  have hr2 : Rep P ι2 σ2 W1 := by
    have := hr1.alloc (w' := W1) (.loop r) (.lp 0) 0 rfl ⟨rfl, rfl⟩ ⟨r, by show (W0.heap.push _)[W0.heap.size]? = _; simp⟩
    rw [hs0, hn1] at this
    exact this
  have hx1 : Ext ι ι1 σ σ1 := Ext.alloc hrep _ _
  have hx2 : Ext ι1 ι2 σ1 σ2 := Ext.alloc hr1 _ _
  have hpubL : G.pub L := G.fresh hr1.kept (by rw [hs0]; exact Nat.le_refl _)
  have hk2 : ι2 k = some ⟨L, 0, 0⟩ := Inj.add_self
  have hat2 : σ2.at k = some (.lp 0) := by show (σ1.new _).at k = _; rw [St.at_new]; exact if_pos rfl
  have hL2 : W1.heap[L]? = some (.loop (recOf r 0)) := by
    show (W0.heap.push _)[L]? = _
    rw [← hs0]; simp [recOf, codeOf, r]
  have hfixk : ∀ {i}, G.fix i → i ≠ k := fun hi e => by have := (hrep.fixd hi).1; omega
  -- the loop's own ghost
  have hrL : @Rep P (G.loop ι2 k L r) ι2 σ2 W1 := by
    refine Rep.swap (G := G) hr2 hk2 rfl (fun _ _ => rfl) ⟨_, hL2⟩ ⟨_, hL2⟩ (fun _ _ => rfl) (fun o ho => ?_) rfl ⟨hr2.kept, 0, hat2, hL2⟩ (fun b h1 h2 => ⟨h1, h2⟩) ?_ ?_
    · rw [hat2] at ho; cases ho; rfl
    · rintro i (hi | rfl)
      · exact hr2.fixd hi
      · exact ⟨by show k < σ2.next; exact Nat.lt_succ_self _, _, hat2, rfl⟩
    · rintro i l (hi | hi)
      · exact hr2.locd hi
      · exact hi
  -- the rounds
  have hrounds : @CallOK (G.loop ι2 k L r) P (yOne k (roundV (run cy noY n X1) (run cy noY n X2) e ps.toList k)) := by
    intro ι' σ' w' fc args xs E τ' hc hx hrep'
    unfold yOne at hc
    split at hc
    case h_2 => cases hc
    rename_i hfe
    have hfe := Nat.eq_of_beq_eq_true hfe
    have hle : ι2.le ι' := fun i l hi => RepOf.locd hrep' (.inr hi)
    have hk' : ι' k = some ⟨L, 0, 0⟩ := hle _ _ hk2
    refine .inr ⟨k, ⟨L, 0, 0⟩, hfe, hk', ?_⟩
    unfold roundV at hc
    split at hc
    case h_2 => cases hc
    rename_i e1 hput hrdy
    have hat := readyV_at hrdy
    obtain ⟨hkp, c0, hc0, hL'⟩ := RepOf.kept hrep'
    rw [hat] at hc0; cases hc0
    have hlen := putAll_len hput
    have hxl := gams_length hx
    have hsz : xs.toArray.size = (recOf r 0).params.size := by
      show xs.toArray.size = ps.size
      simp only [List.size_toArray]
      rw [hxl, ← hlen]; simp
    refine ⟨_, _, _, _, run_yield hL' hsz, ?_⟩
    split at hc
    case h_2 => cases hc
    rename_i e2 σa hra
    split at hc
    case h_2 => cases hc
    rename_i hrdya
    have hata := readyV_at hrdya
    split at hc
    case h_2 => cases hc
    rename_i x eb σb hrb
    -- the temporaries of the round
    have hT : ((recOf r 0).params.zip xs.toArray).foldl (fun tmps (t, a) => tmps.setIfInBounds t a) (recOf r 0).tmps = (ps.toList.zip xs).foldl (fun t (p, v) => t.setIfInBounds p v) a.tmps := by
      show (ps.zip xs.toArray).foldl _ a.tmps = _
      rw [← Array.foldl_toList, Array.toList_zip]
    obtain ⟨hN', henv'⟩ := putAll_env (T := a.tmps) hput hx hps har.size (fun {t v} ht => by
      obtain ⟨y, y1, y2⟩ := har.env ht
      exact ⟨y, y1, gam_mono (Inj.le_trans (Inj.le_trans hx1.le hx2.le) hle) v y2⟩)
    rw [hT]
    refine roundIn_of_wpIn trivial ?_
    refine wpIn_mono (ha (G.loop ι2 k L r) L hra ⟨hN', henv', trivial⟩ hrep') fun x1 a1 w1 hp1 => ?_
    obtain ⟨κ1, p1, p2, p3, p4⟩ := hp1
    cases x1 <;> simp only [XRel] at p4
    simp only [Exit.then]
    obtain ⟨hkp1, c1, hc1, hL1⟩ := RepOf.kept p2
    rw [hata] at hc1; cases hc1
    refine ⟨_, run_beginRound hL1 rfl, ?_⟩
    have hk1 : κ1 k = some ⟨L, 0, 0⟩ := p1.le _ _ hk'
    have hltL : L < w1.heap.size := (Array.getElem?_eq_some_iff.1 hL1).1
    have hLb : (w1.putObj L (.loop { recOf r 0 with state := .busy })).heap[L]? = some (.loop { recOf r 0 with state := .busy }) := World.putObj_heap_same hltL
    have hoth : ∀ {W : World} {o : Obj} j, j ≠ L → (W.putObj L o).heap[j]? = W.heap[j]? := fun j hj => World.putObj_heap_other hj
    have hrepB : @Rep P (G.busy ι2 k L r) κ1 σa (w1.putObj L (.loop { recOf r 0 with state := .busy })) := by
      refine Rep.swap (G := G.loop ι2 k L r) p2 hk1 rfl hoth ⟨_, hL1⟩ ⟨_, hLb⟩ (fun _ _ => rfl) (fun o ho => ?_) rfl ⟨?_, hLb⟩ (fun b h1 h2 => h1) (fun hi => RepOf.fixd p2 hi) (fun hi => RepOf.locd p2 hi)
      · rw [hata] at ho; cases ho; rfl
      · refine G.turn hkp1 (fun j hj hp => hoth j (fun e => hp (e ▸ hpubL))) ⟨rfl, rfl⟩ (fun _ _ => rfl)
    refine wpIn_mono (hb (G.busy ι2 k L r) L hrb p3 hrepB) fun x2 a2 w2 hp2 => ?_
    obtain ⟨κ2, q1, q2, q3, q4⟩ := hp2
    obtain ⟨hkp2, hL2'⟩ := RepOf.kept q2
    have hlt2 : L < w2.heap.size := (Array.getElem?_eq_some_iff.1 hL2').1
    have hk2' : κ2 k = some ⟨L, 0, 0⟩ := q1.le _ _ hk1
    -- the round's end
    have fin : ∀ {jump : Option Code} {c' : Nat} {τ'' : St}, jump = codeOf c' → readyV σb k = true → τ''.at k = some (.lp c') → (∀ i, i ≠ k → τ''.at i = σb.at i) → τ''.next = σb.next → E = .ret (.bool jump.isNone) → τ' = τ'' →
        ∃ v w', (Instr.endRound L jump).run P w2 = .ok v w' ∧ @EPost (G.loop ι2 k L r) P ι' σ' E τ' (.returned v) w' := by
      intro jump c' τ'' hj hrd hτ1 hτ2 hτ3 hE hτ'
      subst hE hτ'
      have hatb := readyV_at hrd
      refine ⟨_, _, run_endRound jump hL2', κ2, (p1.trans q1).tweak hτ2 hτ3 hk2', ?_, by simp [EndRel, gam]⟩
      rw [recOf_busy_end hj]
      have hLe : (w2.putObj L (.loop (recOf r c'))).heap[L]? = some (.loop (recOf r c')) := World.putObj_heap_same hlt2
      refine Rep.swap (G := G.busy ι2 k L r) q2 hk2' rfl hoth ⟨_, hL2'⟩ ⟨_, hLe⟩ hτ2 (fun o ho => ?_) hτ3 ⟨?_, c', hτ1, hLe⟩ (fun b h1 h2 => h1) ?_ (fun hi => RepOf.locd q2 hi)
      · rw [hτ1] at ho; cases ho; rfl
      · refine G.turn hkp2 (fun j hj hp => hoth j (fun e => hp (e ▸ hpubL))) ⟨rfl, rfl⟩ (fun i hi => hτ2 i (hfixk hi))
      · intro i hi
        obtain ⟨h1, o, h2, h3⟩ := RepOf.fixd q2 hi
        by_cases e : i = k
        · subst e; exact ⟨by rw [hτ3]; exact h1, _, hτ1, rfl⟩
        · exact ⟨by rw [hτ3]; exact h1, o, by rw [hτ2 i e]; exact h2, h3⟩
    split at hc
    · rename_i hxc hrd
      cases hc
      have hx0 : x = .nrm := by cases x <;> simp [xCode] at hxc; rfl
      subst hx0
      cases x2 <;> simp only [XRel] at q4
      exact fin (jump := none) (c' := 0) rfl hrd (readyV_at hrd) (fun _ _ => rfl) rfl rfl rfl
    · rename_i c' hxc hrd
      cases hc
      have hput' : ∀ i, i ≠ k → (σb.put k (some (.lp (c' + 1)))).at i = σb.at i := fun i hi => by rw [St.at_put, if_neg hi]
      have hputk : (σb.put k (some (.lp (c' + 1)))).at k = some (.lp (c' + 1)) := by rw [St.at_put, if_pos rfl]
      cases x with
      | nrm => simp [xCode] at hxc
      | pan ch => simp [xCode] at hxc
      | ret =>
        simp [xCode] at hxc; subst hxc
        cases x2 <;> simp only [XRel] at q4
        exact fin (jump := some .ret) (c' := 1) rfl hrd hputk hput' rfl rfl rfl
      | exit id =>
        simp [xCode] at hxc; subst hxc
        cases x2 <;> simp only [XRel] at q4
        subst q4
        exact fin (jump := some (.exit id)) (c' := id + 2) rfl hrd hputk hput' rfl rfl rfl
    · cases hc
  -- the iterator
  have hyl : gams ι2 (.yld k :: cap) = some (.func (.yield L) #[] #[] :: CC) := gams_cons.2 ⟨_, _, by simp only [gam]; rw [hk2], gams_mono (Inj.le_trans hx1.le hx2.le) _ hCC, rfl⟩
  have hent := hcy _ _ hrounds ι2 σ2 W1 gf _ _ _ _ hcall hyl hrL
  rcases hent with ⟨_, hent⟩ | ⟨k', l', e1, _⟩
  case inr => omega
  unfold Enters at hent
  rw [run_callFunc hfG hnG hbG] at hent
  simp only at hent
  refine ⟨L, [{ target := .collected w.heap.size, args := #[] }], W1, { target := .fn (.func gf) CC.toArray, args := #[.func (.yield L) #[] #[]] }, W1, gf, #[.func (.yield L) #[] #[]] ++ CC.toArray, W1, run_enterLoop_outer _ _ _ _ _, ?_, (fun _ _ => trivial), ?_, (fun h => by cases h), ?_⟩
  · simp only [resolve, rangeCall, eg, Deferred.ofValue, Sem.run_bind, Sem.run_pure, Result.andThen_ok]
    simp [Act.eval]
  · simp only [invoke]
    rw [run_callFunc hfG hnG hbG]
  have hargs : #[Value.func (.yield L) #[] #[]] ++ CC.toArray = (Value.func (.yield L) #[] #[] :: CC).toArray := by simp
  rw [hargs]
  refine CallsIn.mono (callsIn_wide.2 hent) ?_
  rintro en w3 ⟨κ, x1, x2, x3⟩
  cases en <;> simp only [EndRel] at x3
  obtain ⟨hkp3, c3, hc3, hL3⟩ := RepOf.kept x2
  rw [hτk] at hc3; cases hc3
  have hlt3 : L < w3.heap.size := (Array.getElem?_eq_some_iff.1 hL3).1
  have hk3 : κ k = some ⟨L, 0, 0⟩ := x1.le _ _ hk2
  refine ⟨codeOf c, _, run_endLoop hL3 (by unfold recOf; cases c <;> simp), ?_⟩
  have hputn : ∀ i, i ≠ k → (τ.put k none).at i = τ.at i := fun i hi => by rw [St.at_put, if_neg hi]
  have hrepF : Rep P κ (τ.put k none) (w3.putObj L (.loop { recOf r c with state := .exhausted })) := by
    refine Rep.swap (G := G.loop ι2 k L r) x2 hk3 rfl (fun j hj => World.putObj_heap_other hj) ⟨_, hL3⟩ ⟨_, World.putObj_heap_same hlt3⟩ hputn (fun o ho => ?_) rfl ?_ (fun b h1 h2 => h1.1) ?_ (fun hi => RepOf.locd x2 (.inl hi))
    · rw [St.at_put, if_pos rfl] at ho; cases ho
    · refine G.turn hkp3 (fun j hj hp => World.putObj_heap_other (fun e => hp (e ▸ hpubL))) ⟨rfl, rfl⟩ (fun i hi => hputn i (hfixk hi))
    · intro i hi
      obtain ⟨h1, o, h2, h3⟩ := RepOf.fixd x2 (.inl hi)
      exact ⟨h1, o, by rw [hputn i (hfixk hi)]; exact h2, h3⟩
  have hle : ι.le κ := Inj.le_trans (Inj.le_trans hx1.le hx2.le) x1.le
  have hextF : Ext ι κ σ (τ.put k none) := by
    have h12 := (hx1.trans hx2).trans x1
    refine ⟨h12.le, h12.next, fun i hi hn => ?_⟩
    obtain ⟨h1, h2⟩ := h12.out i hi hn
    exact ⟨h1, by rw [hputn i (by omega)]; exact h2⟩
  have harF : AR κ N e ((.yield σ.next, [], []) :: d) { a with defers := [{ target := .collected w.heap.size, args := #[] }] ++ a.defers } := by
    refine ⟨har.size, fun {t v} ht => ?_, .inr ⟨σ.next, ⟨w.heap.size, 0, 0⟩, rfl, rfl, ?_⟩, har.dfr.mono hle⟩
    · obtain ⟨y, y1, y2⟩ := har.env ht
      exact ⟨y, y1, gam_mono hle v y2⟩
    · exact x1.le _ _ (hx2.le _ _ Inj.add_self)
  match c, hτk with
  | 0, _ => exact ⟨κ, hextF, hrepF, harF, trivial⟩
  | 1, _ => exact wpIn_ret ⟨κ, hextF, hrepF, harF, trivial⟩
  | id + 2, _ => exact wpIn_exit ⟨κ, hextF, hrepF, harF, rfl⟩

end

section
variable {P : Program}

theorem run_sim {cy : Call → Call} (hcy : ∀ (G : Gh) y, @CallOK G P y → @CallOK G P (cy y)) {tabs : String → List Nat} {N : Nat} {kf : Nat → Option (List Nat)} {n : Nat} : ∀ (c : Code) [G : Gh] {F : Fence} (_ : FOk F) {m : Nat} {y : Call} (_ : CallOK P y) {X : C} {ι : Inj} {e : E} {d : D} {σ : St} {f : Fin} {a : Act} {w : World},
    compC P tabs N kf c = some X → (F.round = none ∨ X.noDfr = true) → run cy y n X e d σ = some f → AR ι N e d a → Rep P ι σ w → c.wpIn F m P (Post P ι σ N f) a w := by
  intro c
  induction c with
  | skip =>
    intro G F hF m y hy X ι e d σ f a w hc hnd hr har hrep
    cases hc
    simp only [run, Option.some.injEq] at hr; subst hr
    exact wpIn_skip ⟨ι, Ext.refl ι σ, hrep, har, trivial⟩
  | label l =>
    intro G F hF m y hy X ι e d σ f a w hc hnd hr har hrep
    cases hc
    simp only [run, Option.some.injEq] at hr; subst hr
    exact wpIn_label ⟨ι, Ext.refl ι σ, hrep, har, trivial⟩
  | region id ops draw =>
    intro G F hF m y hy X ι e d σ f a w hc hnd hr har hrep
    have hkeep : ∀ {g : Fin} {k : Option (List Nat)}, (match some g with
        | some ⟨.nrm, e', d', σ'⟩ => some ⟨.nrm, keep e' k, d', σ'⟩
        | r => r) = some f → ∀ x a w, Post P ι σ N g x a w → Post P ι σ N f x a w := by
      intro g k hg x a w ⟨κ, h1, h2, h3, h4⟩
      split at hg
      · rename_i e' d' σ' hgg
        cases hgg; cases hg
        exact ⟨κ, h1, h2, h3.keep k, h4⟩
      · rename_i hgg
        cases hg
        exact ⟨κ, h1, h2, h3, h4⟩
    simp only [compC] at hc
    split at hc
    · split at hc
      · rename_i l hl
        cases hc
        simp only [run] at hr
        cases ho : Den.ops (cy y) l e d σ with
        | none => rw [ho] at hr; cases hr
        | some g =>
          rw [ho] at hr
          have := ops_sim (ops := ops) hF (m := m) (hcy G y hy) ops.size (i := 0) (Nat.zero_add _) (by simpa using hl) (hnd.imp (fun h => h) fun h => by simpa only [C.noDfr] using h) ho har hrep
          refine wpIn_mono (wpIn_region ?_) (hkeep hr)
          rw [List.range_eq_range']
          exact this
      · cases hc
    · split at hc
      · rename_i l hl
        cases hc
        simp only [run] at hr
        cases ho : dreg (cy y) l e d σ with
        | none => rw [ho] at hr; cases hr
        | some g =>
          rw [ho] at hr
          exact wpIn_mono (dreg_sim hF (hcy G y hy) hl ho har hrep) (hkeep hr)
      · cases hc
  | seq c1 c2 ihx ihy =>
    intro G F hF m y hy X ι e d σ f a w hc hnd hr har hrep
    simp only [compC] at hc
    split at hc
    case h_2 => cases hc
    rename_i X1 h1
    split at hc
    case h_2 => cases hc
    rename_i X2 h2
    cases hc
    simp only [run] at hr
    refine wpIn_seq ?_
    cases ho : run cy y n X1 e d σ with
    | none => rw [ho] at hr; cases hr
    | some g =>
      rw [ho] at hr
      refine wpIn_mono (ihx hF hy h1 (hnd.imp (fun h => h) fun h => by simp only [C.noDfr, Bool.and_eq_true] at h; exact h.1) ho har hrep) fun x' a' w' hp => hp.then (fun hg hx => ?_) (fun hg hx => ?_)
      · obtain ⟨κ, q1, q2, q3, q4⟩ := hp
        obtain ⟨gx, ge, gd, gs⟩ := g
        simp only at hg; subst hg
        exact wpIn_mono (ihy hF hy h2 (hnd.imp (fun h => h) fun h => by simp only [C.noDfr, Bool.and_eq_true] at h; exact h.2) hr q3 q2) fun _ _ _ h => Post.pre q1 h
      · split at hr
        · rename_i hgg; cases hgg; exact absurd rfl hg
        · cases hr; exact hp
  | cond v c1 c2 ihx ihy =>
    intro G F hF m y hy X ι e d σ f a w hc hnd hr har hrep
    simp only [compC] at hc
    split at hc
    case h_2 => cases hc
    rename_i A hA
    split at hc
    case h_2 => cases hc
    rename_i X1 h1
    split at hc
    case h_2 => cases hc
    rename_i X2 h2
    cases hc
    simp only [run] at hr
    split at hr
    · rename_i hv
      have := har.ra hrep _ _ _ hA hv
      exact wpIn_cond_true (gam_bool this) (ihx hF hy h1 (hnd.imp (fun h => h) fun h => by simp only [C.noDfr, Bool.and_eq_true] at h; exact h.1) hr har hrep)
    · rename_i hv
      have := har.ra hrep _ _ _ hA hv
      exact wpIn_cond_false (gam_bool this) (ihy hF hy h2 (hnd.imp (fun h => h) fun h => by simp only [C.noDfr, Bool.and_eq_true] at h; exact h.2) hr har hrep)
    · cases hr
  | block id c ih =>
    intro G F hF m y hy X ι e d σ f a w hc hnd hr har hrep
    simp only [compC] at hc
    split at hc
    case h_2 => cases hc
    rename_i X1 h1
    cases hc
    simp only [run] at hr
    refine wpIn_block ?_
    cases ho : run cy y n X1 e d σ with
    | none => rw [ho] at hr; cases hr
    | some g =>
      rw [ho] at hr
      refine wpIn_mono (ih hF hy h1 hnd ho har hrep) fun x' a' w' hp => ?_
      obtain ⟨κ, q1, q2, q3, q4⟩ := hp
      obtain ⟨gx, ge, gd, gs⟩ := g
      split at hr
      · rename_i hgg
        cases hgg
        cases x' <;> simp only [XRel] at q4
        subst q4
        simp only [Exit.inBlock]
        split at hr
        · rename_i hb
          have := Nat.eq_of_beq_eq_true hb
          cases hr
          rw [if_pos this]
          exact ⟨κ, q1, q2, q3, trivial⟩
        · rename_i hb
          cases hr
          rw [if_neg (fun e => by subst e; rw [beq_self'] at hb; cases hb)]
          exact ⟨κ, q1, q2, q3, rfl⟩
      · rename_i hne
        cases hr
        have hp : Post P ι σ N ⟨gx, ge, gd, gs⟩ x' a' w' := ⟨κ, q1, q2, q3, q4⟩
        cases x' with
        | exit i =>
          cases gx <;> simp only [XRel] at q4
          exact absurd rfl (hne _ _ _ _)
        | _ => exact hp
  | loop c ih =>
    intro G F hF m y hy X ι e d σ f a w hc hnd hr har hrep
    simp only [compC] at hc
    split at hc
    case h_2 => cases hc
    rename_i X1 h1
    cases hc
    simp only [run] at hr
    refine wpIn_loop_ghost (fun m a w => ∃ κ e d τ, Ext ι κ σ τ ∧ Rep P κ τ w ∧ AR κ N e d a ∧ loopN (run cy y n X1) m e d τ = some f) n ⟨ι, e, d, σ, Ext.refl ι σ, hrep, har, hr⟩ ?_
    rintro m a' w' ⟨κ, e', d', τ, q1, q2, q3, q4⟩
    cases m with
    | zero => simp [loopN] at q4
    | succ m =>
      simp only [loopN] at q4
      cases ho : run cy y n X1 e' d' τ with
      | none => rw [ho] at q4; cases q4
      | some g =>
        rw [ho] at q4
        refine wpIn_mono (ih hF hy h1 hnd ho q3 q2) fun x' a' w' hp => hp.then (fun hg hx => ?_) (fun hg hx => ?_)
        · obtain ⟨μ, r1, r2, r3, r4⟩ := hp
          obtain ⟨gx, ge, gd, gs⟩ := g
          simp only at hg; subst hg
          exact ⟨m, Nat.lt_succ_self m, μ, ge, gd, gs, q1.trans r1, r2, r3, q4⟩
        · split at q4
          · rename_i hgg; cases hgg; exact absurd rfl hg
          · cases q4; exact Post.pre q1 hp
  | exit id =>
    intro G F hF m y hy X ι e d σ f a w hc hnd hr har hrep
    cases hc
    simp only [run, Option.some.injEq] at hr; subst hr
    exact wpIn_exit ⟨ι, Ext.refl ι σ, hrep, har, rfl⟩
  | ret =>
    intro G F hF m y hy X ι e d σ f a w hc hnd hr har hrep
    cases hc
    simp only [run, Option.some.injEq] at hr; subst hr
    exact wpIn_ret ⟨ι, Ext.refl ι σ, hrep, har, trivial⟩
  | scope c ih =>
    intro G F hF m y hy X ι e d σ f a w hc hnd hr har hrep
    simp only [compC] at hc
    refine wpIn_scope_straight (wpIn_mono (ih hF hy hc hnd hr har hrep) fun x' a' w' hp => ?_)
    obtain ⟨κ, q1, q2, q3, q4⟩ := hp
    have hp : Post P ι σ N f x' a' w' := ⟨κ, q1, q2, q3, q4⟩
    cases x' with
    | goto l => cases hx : f.x <;> rw [hx] at q4 <;> simp only [XRel] at q4
    | _ => exact hp
  | rangeFunc g ps ca cb iha ihb =>
    intro G F hF m y hy X ι e d σ f a w hc hnd hr har hrep
    simp only [compC] at hc
    split at hc
    case h_2 => cases hc
    rename_i v hv
    split at hc
    case h_2 => cases hc
    rename_i X1 h1
    split at hc
    case h_2 => cases hc
    rename_i X2 h2
    split at hc
    case h_2 => cases hc
    rename_i hcc
    cases hc
    simp only [Bool.and_eq_true] at hcc
    obtain ⟨⟨⟨n1, n2⟩, n3⟩, n4⟩ := hcc
    have hro : F = Fence.wide := by
      rcases hnd with h0 | h0
      · rcases hF with rfl | ⟨l, rfl⟩
        · rfl
        · cases h0
      · simp [C.noDfr] at h0
    subst hro
    simp only [run] at hr
    exact range_sim (m := m) (hcy := hcy) hv n3 n4 hr har hrep
      (fun G l {_ _ _ _ _ _ _} h har hrep => @iha G (Fence.wide.inRound l) (.inr ⟨l, rfl⟩) 0 noY (@noY_ok P G) _ _ _ _ _ _ _ _ h1 (.inr n1) h har hrep)
      (fun G l {_ _ _ _ _ _ _} h har hrep => @ihb G (Fence.wide.inRound l) (.inr ⟨l, rfl⟩) 0 noY (@noY_ok P G) _ _ _ _ _ _ _ _ h2 (.inr n2) h har hrep)
  | _ =>
    intros
    rename_i hc _ hr _ _
    cases hc
    simp [run] at hr

end

end Go.Den
end

section
/- Functions: deferred calls, recover, results. -/
namespace Go.Den

variable [Gh] {P : Program}

/-! ### Results -/

theorem mapML_run {α β : Type} {f : α → Sem β} {w : World} : ∀ {l : List α} {vs : List β}, vs.length = l.length →
    (∀ (j : Nat) (x : α) (v : β), l[j]? = some x → vs[j]? = some v → (f x).run P w = .ok v w) → (l.mapM f).run P w = .ok vs w
  | [], vs, hv, h => by
    have : vs = [] := List.length_eq_zero_iff.1 hv
    subst this
    simp
  | x :: l, vs, hv, h => by
    cases vs with
    | nil => simp at hv
    | cons v vs =>
      have h0 := h 0 x v rfl rfl
      have h1 := mapML_run (l := l) (vs := vs) (by simpa using hv) (fun j y u hy hu => h (j + 1) y u (by simpa using hy) (by simpa using hu))
      simp only [List.mapM_cons, Sem.run_bind, h0, Result.andThen_ok, h1, Sem.run_pure]

theorem mapM_run {α β : Type} {f : α → Sem β} {w : World} {as : Array α} {vs : List β} (hv : vs.length = as.size)
    (h : ∀ (j : Nat) (x : α) (v : β), as[j]? = some x → vs[j]? = some v → (f x).run P w = .ok v w) : (as.mapM f).run P w = .ok vs.toArray w := by
  rw [Array.mapM_eq_mapM_toList, ← bind_pure_comp]
  simp only [Sem.run_bind]
  rw [mapML_run (vs := vs) (by simpa using hv) (fun j x v hx => h j x v (by simpa using hx))]
  simp

/-- A result variable. -/
theorem rv_sim {ι : Inj} {N : Nat} {e : E} {d : D} {a : Act} {σ : St} {w : World} (har : AR ι N e d a) (hrep : Rep P ι σ w) {r : ResultVar} {rv : RV} {v : V}
    (hv : (match rv with
      | .tmp t => E.get e t
      | .cell1 t => match E.get e t with
        | some (.ptr (some (i, o))) => σ.load i o
        | _ => none
      | .cellN t n => match E.get e t with
        | some (.ptr (some (i, o))) => match σ.loadN i o n with
          | some cs => some (.agg cs)
          | none => none
        | _ => none) = some v)
    (hc : ∀ rs rs', compRV P rs = some rs' → compRV P (r :: rs) = some (rv :: rs')) :
    ∃ x, (match r with
      | .tmp t => (pure (a.tmps.getD t undef) : Sem Value)
      | .cell b t => do loadVar t (← asAddr (a.tmps.getD b undef))).run P w = .ok x w ∧ gam ι v = some x := by
  have hc := hc [] [] rfl
  simp only [compRV] at hc
  cases r with
  | tmp t =>
    simp only [Option.some.injEq, List.cons.injEq, and_true] at hc
    subst hc
    simp only at hv
    obtain ⟨x, h1, h2⟩ := har.env hv
    exact ⟨x, by simp [h1], h2⟩
  | cell b t =>
    simp only at hc
    split at hc
    · rename_i n ha hn
      simp only [Option.some.injEq, List.cons.injEq, and_true] at hc
      subst hc
      simp only at hv
      split at hv
      · rename_i i o hg
        split at hv
        · rename_i cs hcs
          cases hv
          obtain ⟨x, h1, h2⟩ := har.env hg
          obtain ⟨l, hl, rfl⟩ := gam_ptr h2
          obtain ⟨xs, hy, hgx⟩ := hrep.loadN hl hcs
          exact ⟨.agg xs.toArray, by simp [h1, asAddr, loadVar, run_isAggT ha, run_sizeT hn, hy], by simp [gam, hgx]⟩
        · cases hv
      · cases hv
    · rename_i ha
      simp only [Option.some.injEq, List.cons.injEq, and_true] at hc
      subst hc
      simp only at hv
      split at hv
      · rename_i i o hg
        obtain ⟨x, h1, h2⟩ := har.env hg
        obtain ⟨l, hl, rfl⟩ := gam_ptr h2
        obtain ⟨y, hy, hgx⟩ := hrep.load hl hv
        exact ⟨y, by simp [h1, asAddr, loadVar, run_isAggT ha, hy], hgx⟩
      · cases hv
    · cases hc

theorem resV_sim {ι : Inj} {N : Nat} {e : E} {d : D} {a : Act} {σ : St} {w : World} (har : AR ι N e d a) (hrep : Rep P ι σ w) : ∀ {rs : List ResultVar} {xs : List RV} {vs : List V}, compRV P rs = some xs → resV e σ xs = some vs →
    ∃ ys, gams ι vs = some ys ∧ ys.length = rs.length ∧ ∀ (j : Nat) (r : ResultVar) (y : Value), rs[j]? = some r → ys[j]? = some y →
      (match r with
      | .tmp t => (pure (a.tmps.getD t undef) : Sem Value)
      | .cell b t => do loadVar t (← asAddr (a.tmps.getD b undef))).run P w = .ok y w
  | [], xs, vs, hc, hv => by
    cases hc; cases hv
    exact ⟨[], by simp [gams], rfl, fun j r y hr => by simp at hr⟩
  | r :: rs, xs, vs, hc, hv => by
    have hsplit : ∃ rv rs', xs = rv :: rs' ∧ compRV P rs = some rs' ∧ ∀ qs qs', compRV P qs = some qs' → compRV P (r :: qs) = some (rv :: qs') := by
      simp only [compRV] at hc
      split at hc
      · cases hc
      rename_i rs' hrs
      split at hc
      · rename_i t
        cases hc
        exact ⟨_, _, rfl, hrs, fun qs qs' hq => by simp [compRV, hq]⟩
      · rename_i t ty
        split at hc
        · rename_i n ha hn
          cases hc
          exact ⟨_, _, rfl, hrs, fun qs qs' hq => by simp [compRV, hq, ha, hn]⟩
        · rename_i ha
          cases hc
          exact ⟨_, _, rfl, hrs, fun qs qs' hq => by simp [compRV, hq, ha]⟩
        · cases hc
    obtain ⟨rv, rs', rfl, hrs, hcc⟩ := hsplit
    simp only [resV] at hv
    split at hv
    · cases hv
    rename_i v hv1
    split at hv
    case h_2 => cases hv
    rename_i vs' hvs
    cases hv
    obtain ⟨x, x1, x2⟩ := rv_sim (P := P) har hrep hv1 hcc
    obtain ⟨ys, y1, y2, y3⟩ := resV_sim har hrep hrs hvs
    refine ⟨x :: ys, by simp [gams, x2, y1], by simp [y2], fun j q y hq hy => ?_⟩
    cases j with
    | zero =>
      simp only [List.getElem?_cons_zero, Option.some.injEq] at hq hy
      subst hq; subst hy
      exact x1
    | succ j => exact y3 j q y (by simpa using hq) (by simpa using hy)

theorem results_sim {ι : Inj} {N : Nat} {e : E} {d : D} {a : Act} {σ : St} {w : World} (har : AR ι N e d a) (hrep : Rep P ι σ w) {fn : Func} {xs : List RV} {vs : List V} (hc : compRV P fn.results.toList = some xs) (hv : resV e σ xs = some vs) :
    ∃ x, (results fn a.tmps).run P w = .ok x w ∧ gam ι (retV vs) = some x := by
  obtain ⟨ys, h1, h2, h3⟩ := resV_sim har hrep hc hv
  have hm := mapM_run (P := P) (w := w) (f := fun r : ResultVar => (match r with
      | .tmp t => (pure (a.tmps.getD t undef) : Sem Value)
      | .cell b t => do loadVar t (← asAddr (a.tmps.getD b undef)))) (as := fn.results) (vs := ys) (by rw [h2]; simp) (fun j r y hr hy => h3 j r y (by simpa using hr) hy)
  have hlen := gams_length h1
  have hr : (results fn a.tmps).run P w = (pure (if h : ys.toArray.size = 1 then ys.toArray[0] else .tuple ys.toArray) : Sem Value).run P w := by
    unfold results
    rw [Sem.run_bind]
    exact congrArg (fun r => Result.andThen r fun (vs : Array Value) w' => (pure (if h : vs.size = 1 then vs[0] else .tuple vs) : Sem Value).run P w') hm
  refine ⟨_, hr, ?_⟩
  cases vs with
  | nil =>
    have : ys = [] := List.length_eq_zero_iff.1 hlen
    subst this
    simp [retV, gam, gams]
  | cons v vs =>
    cases vs with
    | nil =>
      obtain ⟨y, ys', g1, g2, rfl⟩ := gams_cons.1 h1
      have : ys' = [] := by simpa [gams] using g2.symm
      subst this
      simpa [retV] using g1
    | cons u vs =>
      have hne : ys.toArray.size ≠ 1 := by simp at hlen ⊢; omega
      simp only [retV]
      rw [dif_neg hne]
      simp [gam, h1]

end Go.Den
end

section
/- Functions: deferred calls, recover; a call of the interpreter's is a call of the model's. -/
namespace Go.Den

variable [Gh] {P : Program}

/-! ### The caller's panic -/

def URel (ι : Inj) : Option Chain → FrameMode → Prop
  | none, .returning => True
  | some ch, .panicking c => ChRel ι ch c
  | _, _ => False

theorem ChRel.mono {ι κ : Inj} (h : ι.le κ) : ∀ {ch : Chain} {c : List PanicEntry}, ChRel ι ch c → ChRel κ ch c
  | [], [], _ => trivial
  | (_, _) :: _, _ :: _, ⟨⟨x, e, g⟩, hr⟩ => ⟨⟨x, e, gam_mono h _ g⟩, hr.mono h⟩

theorem URel.mono {ι κ : Inj} (h : ι.le κ) {u : Option Chain} {m : FrameMode} : URel ι u m → URel κ u m := by
  intro r
  cases u <;> cases m <;> simp only [URel] at r ⊢
  exact r.mono h

theorem ChRel.append {ι : Inj} : ∀ {x y : Chain} {c d : List PanicEntry}, ChRel ι x c → ChRel ι y d → ChRel ι (x ++ y) (c ++ d)
  | [], _, [], _, _, h => h
  | (_, _) :: _, _, _ :: _, _, ⟨a, r⟩, h => ⟨a, r.append h⟩

theorem ChRel.goexit {ι : Inj} : ∀ {x : Chain} {c : List PanicEntry}, ChRel ι x c → ∀ q ∈ c, q.goexit = false
  | [], [], _, q, h => by simp at h
  | (_, _) :: _, p :: _, ⟨⟨x, e, _⟩, r⟩, q, h => by
    rcases List.mem_cons.1 h with rfl | h
    · rw [e]
    · exact r.goexit q h

theorem settle_sim {ι : Inj} {u : Option Chain} {m : FrameMode} (h : URel ι u m) : URel ι (settleV u) (settle m) := by
  cases u with
  | none =>
    cases m <;> simp only [URel] at h
    simp [settleV, settle, URel]
  | some ch =>
    cases m <;> simp only [URel] at h
    rename_i c
    cases ch with
    | nil =>
      cases c with
      | nil => simp [settleV, settle, URel, ChRel]
      | cons => exact h.elim
    | cons p l =>
      obtain ⟨v, r⟩ := p
      cases c with
      | nil => exact h.elim
      | cons q qs =>
        have h' := h
        obtain ⟨⟨x, e, g⟩, hr⟩ := h
        subst e
        cases r with
        | true =>
          have hd : qs.dropWhile (!·.goexit) = [] := by
            have := hr.goexit
            clear h' hr
            induction qs with
            | nil => rfl
            | cons a qs ih =>
              rw [List.dropWhile_cons, this a List.mem_cons_self]
              simpa using ih fun q hq => this q (List.mem_cons_of_mem _ hq)
          simp [settleV, settle, URel, hd]
        | false =>
          simp only [settleV, settle, URel]
          exact h'

theorem raised_sim {ι : Inj} {u : Option Chain} {m : FrameMode} (h : URel ι u m) {ch : Chain} {c : List PanicEntry} (hc : ChRel ι ch c) : URel ι (some (raisedV u ch)) (raised m c) := by
  cases u <;> cases m <;> simp only [URel] at h
  · simpa [raisedV, raised, URel] using hc
  · simpa [raisedV, raised, URel] using hc.append h

/-! ### Code of a deferred function -/

/-- What a deferred function's code leaves. 'c₀': its caller. -/
def PostS (P : Program) (ι : Inj) (σ : St) (N : Nat) (f : FinS) (c₀ : Frame) (cs : List Frame) (x : Exit) (a : Act) (cs' : List Frame) (w : World) : Prop :=
  ∃ κ m, Ext ι κ σ f.f.s ∧ Rep P κ f.f.s w ∧ AR κ N f.f.e f.f.d a ∧ XRel κ f.f.x x ∧ cs' = { c₀ with mode := m } :: cs ∧ URel κ f.u m

theorem PostS.pre {ι κ : Inj} {σ τ : St} {N : Nat} {f : FinS} {c₀ : Frame} {cs : List Frame} {x : Exit} {a : Act} {cs' : List Frame} {w : World} (h : Ext ι κ σ τ) : PostS P κ τ N f c₀ cs x a cs' w → PostS P ι σ N f c₀ cs x a cs' w :=
  fun ⟨μ, m, h1, h2⟩ => ⟨μ, m, h.trans h1, h2⟩

theorem wpOpsS_mono {ops : Array Oper} {Q Q' : Exit → Act → List Frame → World → Prop} (hQ : ∀ x a cs w, Q x a cs w → Q' x a cs w) : ∀ {l : List Nat} {a : Act} {cs : List Frame} {w : World}, wpOpsS P ops Q l a cs w → wpOpsS P ops Q' l a cs w
  | [], _, _, _, h => hQ _ _ _ _ h
  | i :: l, a, cs, w, h => by
    simp only [wpOpsS] at h ⊢
    split
    · rename_i hn; simp only [hn] at h; exact wpOpsS_mono hQ h
    · rename_i o ho
      simp only [ho] at h
      split
      · rename_i hw
        simp only [hw, if_true] at h
        generalize (execOp a.eval o).run P w = r at *
        split
        · rename_i w'
          simp only at h
          split
          · rename_i v cs' hr
            simp only [hr] at h
            exact wpOpsS_mono hQ h
          · rename_i hr
            simp only [hr] at h
            exact wpOpsS_mono hQ h
        · rename_i hne
          have h' : o.upon P a (fun a' w' => wpOpsS P ops Q l a' cs w') (fun e a' w' => Q e a' cs w') r := by
            cases r with
            | ok n w' =>
              cases n <;> first
                | exact h
                | exact absurd rfl (hne _)
            | halt => exact h
          cases r with
          | ok n w' =>
            cases n <;> simp only [Oper.upon] at h' ⊢ <;> first
              | exact wpOpsS_mono hQ h'
              | exact Calls.mono h' (fun e w'' he => by
                  cases e <;> first
                    | exact wpOpsS_mono hQ he
                    | exact hQ _ _ _ _ he
                    | exact (let ⟨a, w, q⟩ := he; ⟨a, w, hQ _ _ _ _ q⟩))
              | exact Rows.mono h' (fun _ _ he => wpOpsS_mono hQ he)
              | exact h'
          | halt x w' => cases x <;> simp only [Oper.upon] at h' ⊢ <;> first
            | exact hQ _ _ _ _ h'
            | exact h'
      · rename_i hw
        simp only [hw] at h
        exact wpOpsS_mono hQ h

/-- An operation that is wanted, carried out. -/
theorem step_simW {call : Call} (hcall : CallOK P call) {tabs : String → List Nat} {N : Nat} {ops : Array Oper} {o : Oper} {x : Ins} (hc : compIO P tabs N ops o = some x) {ι : Inj} {e : E} {d : D} {a : Act} {σ : St} {w : World}
    (ra : RA P.globals.size ι e a.eval) (hrep : Rep P ι σ w) {r : SR} (hs : step (noR call) x e σ = some r) (K : Act → World → Prop) (Q : Exit → Act → World → Prop)
    (h : match r with
      | .ok v τ => ∀ κ y w', Ext ι κ σ τ → Rep P κ τ w' → gam κ v = some y → K (a.put o.dst y) w'
      | .pan ch τ => ∀ κ c w', Ext ι κ σ τ → Rep P κ τ w' → ChRel κ ch c → Q (.panic c) a w'
      | .dfr fn cap args τ => τ = σ → ∀ c g, gams ι cap = some c → gams ι args = some g → K ({ a with defers := { target := .fn fn c.toArray, args := g.toArray } :: a.defers }.put o.dst undef) w) :
    o.wp P a w K Q := by
  unfold compIO at hc
  split at hc
  case h_2 => cases hc
  rename_i hd xs hh
  split at hc
  case h_2 => cases hc
  rename_i as g dd hxs hg hdst
  cases hc
  simp only [step] at hs
  split at hs
  case h_1 => cases hs
  rename_i vs hvs
  have hx := RA.list ra hxs hvs
  unfold Oper.wp
  split at hs
  case h_1 => cases hs
  · rename_i v τ hsem
    obtain ⟨κ, y, w', h1, h2, h3, h4⟩ := op_sim (P := P) hh hx hsem hrep
    cases hs
    rw [h1]
    exact h κ y w' h4 h3 h2
  · rename_i τ hsem
    obtain ⟨κ, w', h1, h3, h4⟩ := op_sim (P := P) hh hx hsem hrep
    cases hs
    rw [h1]
    exact h κ undef w' h4 h3 (by simp [undefV, gam, gams, undef])
  · rename_i v τ hsem
    obtain ⟨h0, y, h1, h2⟩ := op_sim (P := P) hh hx hsem hrep
    cases hs
    subst h0
    rw [h1]
    exact h ι _ w (Ext.refl ι _) hrep ⟨⟨y, rfl, h2⟩, trivial⟩
  · rename_i fn cap args τ hsem
    obtain ⟨h0, c, g', h1, h2, h3⟩ := op_sim (P := P) hh hx hsem hrep
    cases hs
    subst h0
    rw [h1]
    exact h rfl c g' h2 h3
  · rename_i f args τ hsem
    obtain ⟨h0, hlt, ys, h1, h2⟩ := op_sim (P := P) hh hx hsem hrep
    split at hs
    case h_1 => cases hs
    · rename_i v τ' hcl
      cases hs
      subst h0
      have hnr : noR call f args τ = call f args τ := by
        unfold noR
        rw [show Nat.blt f yBase = true by simpa [Nat.blt_eq] using hlt]
      have hcl' := hnr.symm.trans hcl
      have := hcall ι τ w f args ys _ _ hcl' h2 hrep
      rcases this with ⟨_, this⟩ | ⟨k, l, e1, _⟩
      case inr => omega
      unfold Enters at this
      rw [← h1] at this
      generalize (execOp a.eval o).run P w = R at this
      split at this
      · refine Calls.mono this (fun en w' ⟨κ, e1, e2, e3⟩ => ?_)
        cases en with
        | returned y => exact h κ y w' e1 e2 e3
        | panicked c => exact e3.elim
        | outgrown => exact e3.elim
      · obtain ⟨κ, e1, e2, e3⟩ := this
        exact h κ _ _ e1 e2 e3
      · exact this.elim
    · rename_i ch τ' hcl
      cases hs
      subst h0
      have hnr : noR call f args τ = call f args τ := by
        unfold noR
        rw [show Nat.blt f yBase = true by simpa [Nat.blt_eq] using hlt]
      have hcl' := hnr.symm.trans hcl
      have := hcall ι τ w f args ys _ _ hcl' h2 hrep
      rcases this with ⟨_, this⟩ | ⟨k, l, e1, _⟩
      case inr => omega
      unfold Enters at this
      rw [← h1] at this
      generalize (execOp a.eval o).run P w = R at this
      split at this
      · refine Calls.mono this (fun en w' ⟨κ, e1, e2, e3⟩ => ?_)
        cases en with
        | returned y => exact e3.elim
        | panicked c => exact h κ c w' e1 e2 e3
        | outgrown => exact e3.elim
      · obtain ⟨κ, e1, e2, e3⟩ := this
        exact e3.elim
      · exact this.elim

  · rename_i k args τ hsem
    have hn : ∀ {args : List V} {τ : St}, noR call (yBase + k) args τ = none := by
      intro args τ
      unfold noR
      rw [show Nat.blt (yBase + k) yBase = false by rw [Bool.eq_false_iff]; intro h; have : yBase + k < yBase := by simpa [Nat.blt_eq] using h
                                                    omega]
    rw [hn] at hs
    cases hs

set_option maxHeartbeats 2000000 in
theorem compH_recover {tabs : String → List Nat} {o : Oper} {xs : List Operand} (h : compH P tabs o = some (.recover, xs)) (ρ : Operand → Value) (w : World) : (execOp ρ o).run P w = .ok .recover w := by
  unfold compH at h
  split at h
  all_goals ((try simp only [one, compH.mapUpdC, compH.builtinC] at h); (repeat' (split at h)) <;> first | (cases h; done) | skip)
  rename_i heq
  simp [execOp, heq, resolve, invoke, builtin]

/-- Another operation than recover, by its own law. -/
theorem wpOpsS_of_wp {ops : Array Oper} {Q : Exit → Act → List Frame → World → Prop} {l : List Nat} {a : Act} {cs : List Frame} {w : World} {o : Oper}
    (h : o.wp P a w (fun a' w' => wpOpsS P ops Q l a' cs w') (fun e a' w' => Q e a' cs w')) :
    (match (execOp a.eval o).run P w with
      | .ok .recover w' =>
        match recoverD cs with
        | some (v, cs') => wpOpsS P ops Q l (a.put o.dst v) cs' w'
        | none => wpOpsS P ops Q l (a.put o.dst .nilIface) cs w'
      | r => o.upon P a (fun a' w' => wpOpsS P ops Q l a' cs w') (fun e a' w' => Q e a' cs w') r) := by
  unfold Oper.wp at h
  split
  · rename_i hr
    rw [hr] at h
    exact h.elim
  · exact h

theorem H.recover_or (h : H) : h = .recover ∨ h ≠ .recover := by cases h <;> first | exact .inl rfl | exact .inr (by simp)

theorem opsS_sim {call : Call} (hcall : CallOK P call) {tabs : String → List Nat} {N : Nat} {ops : Array Oper} {c₀ : Frame} {cs : List Frame} : ∀ (n : Nat) {i : Nat}, i + n = ops.size → ∀ {xs : List Ins} {ι : Inj} {e : E} {d : D} {u : Option Chain} {σ : St} {f : FinS} {a : Act} {w : World} {m : FrameMode},
    compOps P tabs N ops (ops.toList.drop i) = some xs → opsS call xs e d u σ = some f → AR ι N e d a → Rep P ι σ w → URel ι u m →
    wpOpsS P ops (PostS P ι σ N f c₀ cs) (List.range' i n) a ({ c₀ with mode := m } :: cs) w := by
  intro n
  induction n with
  | zero =>
    intro i hi xs ι e d u σ f a w m hc hr har hrep hu
    have : ops.toList.drop i = [] := List.drop_eq_nil_of_le (by simp; omega)
    rw [this] at hc
    cases hc
    cases hr
    exact ⟨ι, m, Ext.refl ι σ, hrep, har, trivial, rfl, hu⟩
  | succ n ih =>
    intro i hi xs ι e d u σ f a w m hc hr har hrep hu
    have hlt : i < ops.size := by omega
    have hdrop : ops.toList.drop i = ops[i] :: ops.toList.drop (i + 1) := by
      rw [List.drop_eq_getElem_cons (by simpa using hlt)]
      simp
    rw [hdrop, compOps] at hc
    split at hc
    case h_2 => cases hc
    rename_i x hx
    split at hc
    case h_2 => cases hc
    rename_i xs' hxs
    cases hc
    have hsome : ops[i]? = some ops[i] := by simp [hlt]
    obtain ⟨hd1, hd2, hg⟩ := compIO_dst hx
    rw [List.range'_succ, wpOpsS, hsome]
    simp only [opsS] at hr
    have go : ∀ {κ : Inj} {e' : E} {d' : D} {u' : Option Chain} {τ : St} {a' : Act} {w' : World} {m' : FrameMode}, Ext ι κ σ τ → Rep P κ τ w' → AR κ N e' d' a' → URel κ u' m' → opsS call xs' e' d' u' τ = some f →
        wpOpsS P ops (PostS P ι σ N f c₀ cs) (List.range' (i + 1) n) a' ({ c₀ with mode := m' } :: cs) w' := by
      intro κ e' d' u' τ a' w' m' he hrep' har' hu' hr'
      have := ih (i := i + 1) (by omega) hxs hr' har' hrep' hu'
      exact wpOpsS_mono (fun x a cs w h => PostS.pre he h) this
    split at hr
    · cases hr
    · rename_i hw
      simp only [wanted_sim hg har hw]
      exact go (Ext.refl ι σ) hrep (hd1 ▸ har.put (fun t ht => hd2 t (hd1 ▸ ht)) (gam_undef ι)) hu hr
    · rename_i hw
      simp only [wanted_sim hg har hw, if_true]
      split at hr
      · rename_i hrec
        -- recover
        have hx' := hx
        unfold compIO at hx'
        split at hx'
        case h_2 => cases hx'
        rename_i hd xs hcH
        split at hx'
        case h_2 => cases hx'
        injection hx' with hx'
        rw [← hx'] at hrec
        simp only at hrec
        subst hrec
        rw [compH_recover hcH a.eval w]
        simp only
        split at hr
        · rename_i v old
          cases m <;> simp only [URel] at hu
          rename_i c
          cases c with
          | nil => exact hu.elim
          | cons q qs =>
            obtain ⟨⟨y, rfl, hy⟩, hq⟩ := hu
            simp only [recoverD]
            exact go (u' := some ((v, true) :: old)) (m' := .panicking ({ v := y, recovered := true } :: qs)) (Ext.refl ι σ) hrep (hd1 ▸ har.put (fun t ht => hd2 t (hd1 ▸ ht)) hy) ⟨⟨y, rfl, hy⟩, hq⟩ hr
        · rename_i hne
          have hnone : recoverD ({ c₀ with mode := m } :: cs) = none := by
            cases u with
            | none => cases m <;> simp only [URel] at hu; rfl
            | some ch =>
              cases m <;> simp only [URel] at hu
              rename_i c
              cases ch with
              | nil =>
                cases c with
                | nil => rfl
                | cons => exact hu.elim
              | cons p l =>
                obtain ⟨v, r⟩ := p
                cases c with
                | nil => exact hu.elim
                | cons q qs =>
                  obtain ⟨⟨y, rfl, hy⟩, hq⟩ := hu
                  cases r with
                  | false => exact absurd rfl (hne v l)
                  | true => rfl
          rw [hnone]
          exact go (Ext.refl ι σ) hrep (hd1 ▸ har.put (fun t ht => hd2 t (hd1 ▸ ht)) (by simp [gam])) hu hr
      · refine wpOpsS_of_wp ?_
        split at hr
        · cases hr
        · rename_i v τ hs
          refine step_simW (d := d) hcall hx (har.ra hrep) hrep hs _ _ fun κ y w' h1 h2 h3 => ?_
          exact go h1 h2 (hd1 ▸ (har.mono h1.le).put (fun t ht => hd2 t (hd1 ▸ ht)) h3) (hu.mono h1.le) hr
        · rename_i ch τ hs
          cases hr
          refine step_simW (d := d) hcall hx (har.ra hrep) hrep hs _ _ fun κ c w' h1 h2 h3 => ?_
          exact ⟨κ, m, h1, h2, har.mono h1.le, h3, rfl, hu.mono h1.le⟩
        · rename_i fn cap args τ hs
          refine step_simW (d := d) hcall hx (har.ra hrep) hrep hs _ _ ?_
          rintro rfl c g h1 h2
          exact go (Ext.refl ι _) hrep (hd1 ▸ (har.defer (step_dfr_fn hs) h1 h2).put (fun t ht => hd2 t (hd1 ▸ ht)) (gam_undef ι)) hu hr

theorem wpS_mono {c : Code} {Q Q' : Exit → Act → List Frame → World → Prop} {a : Act} {cs : List Frame} {w : World} (h : c.wpS P Q a cs w) (hq : ∀ e a cs w, Q e a cs w → Q' e a cs w) : c.wpS P Q' a cs w :=
  fun b k hb hr => let ⟨e, a', cs', w', q, r⟩ := h b k hb hr; ⟨e, a', cs', w', hq _ _ _ _ q, r⟩

def noGotoS (Q : Exit → Act → List Frame → World → Prop) : Exit → Act → List Frame → World → Prop
  | .goto _, _, _, _ => False
  | e, a, cs, w => Q e a cs w

theorem wpS_scope_straight {c : Code} {Q : Exit → Act → List Frame → World → Prop} {a : Act} {cs : List Frame} {w : World} (h : c.wpS P (noGotoS Q) a cs w) : (Code.scope c).wpS P Q a cs w := by
  intro b k hb hro
  obtain ⟨e, a₁, cs₁, w₁, hq, harr⟩ := h b (.inScope c :: k) hb hro
  cases e with
  | normal => exact ⟨.normal, a₁, cs₁, w₁, hq, .head step_scope (Steps.trans harr (.one step_inScope))⟩
  | exit id => exact ⟨.exit id, a₁, cs₁, w₁, hq, fun k' hk => .head step_scope (harr k' (by simp [exitTo, hk]))⟩
  | goto l => exact hq.elim
  | ret => exact ⟨_, a₁, cs₁, w₁, hq, .of_steps (.one step_scope) harr⟩
  | panic ch => exact ⟨_, a₁, cs₁, w₁, hq, .of_steps (.one step_scope) harr⟩
  | outgrown => exact ⟨_, a₁, cs₁, w₁, hq, .of_steps (.one step_scope) harr⟩

theorem runS_plain {cy : Call → Call} (hcy : ∀ (G : Gh) y, @CallOK G P y → @CallOK G P (cy y)) {y : Call} (hy : CallOK P y) {tabs : String → List Nat} {N : Nat} {kf : Nat → Option (List Nat)} {n : Nat} {c₀ : Frame} {cs : List Frame} {c : Code} {X : C} {ι : Inj} {e : E} {d : D} {u : Option Chain} {σ : St} {f : FinS} {a : Act} {w : World} {m : FrameMode}
    (hc : compC P tabs N kf c = some X) (hr : ∃ g, run cy y n X e d σ = some g ∧ f = ⟨g, u⟩) (har : AR ι N e d a) (hrep : Rep P ι σ w) (hu : URel ι u m) : c.wpS P (PostS P ι σ N f c₀ cs) a ({ c₀ with mode := m } :: cs) w := by
  obtain ⟨g, hg, rfl⟩ := hr
  refine wpS_of_wp (wp_mono (wpIn_wide.1 (run_sim (m := 0) hcy c (F := Fence.wide) (.inl rfl) hy hc (.inl rfl) hg har hrep)) ?_)
  rintro x a' w' ⟨κ, h1, h2, h3, h4⟩
  exact ⟨κ, m, h1, h2, h3, h4, rfl, hu.mono h1.le⟩

theorem runS_sim {cy : Call → Call} (hcy : ∀ (G : Gh) y, @CallOK G P y → @CallOK G P (cy y)) {y : Call} (hy : CallOK P y) {tabs : String → List Nat} {N : Nat} {kf : Nat → Option (List Nat)} {n : Nat} {c₀ : Frame} {cs : List Frame} : ∀ (c : Code) {X : C} {ι : Inj} {e : E} {d : D} {u : Option Chain} {σ : St} {f : FinS} {a : Act} {w : World} {m : FrameMode},
    compC P tabs N kf c = some X → runS cy y n X e d u σ = some f → AR ι N e d a → Rep P ι σ w → URel ι u m → c.wpS P (PostS P ι σ N f c₀ cs) a ({ c₀ with mode := m } :: cs) w := by
  intro c
  induction c with
  | region id ops draw =>
    intro X ι e d u σ f a w m hc hr har hrep hu
    have hc' := hc
    simp only [compC] at hc
    split at hc
    · split at hc
      · rename_i l hl
        cases hc
        simp only [runS] at hr
        cases ho : opsS (cy y) l e d u σ with
        | none => rw [ho] at hr; cases hr
        | some g =>
          rw [ho] at hr
          have := opsS_sim (ops := ops) (c₀ := c₀) (cs := cs) (hcy _ y hy) ops.size (i := 0) (Nat.zero_add _) (by simpa using hl) ho har hrep hu
          rw [← List.range_eq_range'] at this
          refine wpS_mono (wpS_region this) ?_
          rintro x a cs' w ⟨κ, m', h1, h2, h3, h4, h5, h6⟩
          split at hr
          · rename_i e' d' σ' u' hgg
            cases hgg; cases hr
            exact ⟨κ, m', h1, h2, h3.keep _, h4, h5, h6⟩
          · cases hr
            exact ⟨κ, m', h1, h2, h3, h4, h5, h6⟩
      · cases hc
    · split at hc
      · cases hc
        simp only [runS] at hr
        split at hr
        · rename_i g hg
          cases hr
          exact runS_plain hcy hy hc' ⟨g, hg, rfl⟩ har hrep hu
        · cases hr
      · cases hc
  | seq c1 c2 ihx ihy =>
    intro X ι e d u σ f a w m hc hr har hrep hu
    simp only [compC] at hc
    split at hc
    case h_2 => cases hc
    rename_i X1 h1
    split at hc
    case h_2 => cases hc
    rename_i X2 h2
    cases hc
    simp only [runS] at hr
    refine wpS_seq ?_
    cases ho : runS cy y n X1 e d u σ with
    | none => rw [ho] at hr; cases hr
    | some g =>
      rw [ho] at hr
      refine wpS_mono (ihx h1 ho har hrep hu) ?_
      rintro x' a' cs' w' ⟨κ, m', q1, q2, q3, q4, rfl, q6⟩
      obtain ⟨⟨gx, ge, gd, gs⟩, gu⟩ := g
      cases gx with
      | nrm =>
        cases x' <;> simp only [XRel] at q4
        simp only [Exit.thenS]
        exact wpS_mono (ihy h2 hr q3 q2 q6) fun _ _ _ _ h => PostS.pre q1 h
      | _ =>
        simp only at hr
        cases hr
        have hp : PostS P ι σ N _ c₀ cs x' a' _ w' := ⟨κ, m', q1, q2, q3, q4, rfl, q6⟩
        cases x' <;> first
          | exact q4.elim
          | exact hp
  | cond v c1 c2 ihx ihy =>
    intro X ι e d u σ f a w m hc hr har hrep hu
    simp only [compC] at hc
    split at hc
    case h_2 => cases hc
    rename_i A hA
    split at hc
    case h_2 => cases hc
    rename_i X1 h1
    split at hc
    case h_2 => cases hc
    rename_i X2 h2
    cases hc
    simp only [runS] at hr
    split at hr
    · rename_i hv
      have := har.ra hrep _ _ _ hA hv
      exact wpS_cond (gam_bool this) (ihx h1 hr har hrep hu)
    · rename_i hv
      have := har.ra hrep _ _ _ hA hv
      exact wpS_cond (gam_bool this) (ihy h2 hr har hrep hu)
    · cases hr
  | skip | label | exit | ret =>
    intro X ι e d u σ f a w m hc hr har hrep hu
    have hc' := hc
    cases hc
    simp only [runS] at hr
    split at hr
    · rename_i g hg
      cases hr
      exact runS_plain hcy hy hc' ⟨g, hg, rfl⟩ har hrep hu
    · cases hr
  | block id c =>
    intro X ι e d u σ f a w m hc hr har hrep hu
    have hc' := hc
    simp only [compC] at hc
    split at hc
    case h_2 => cases hc
    cases hc
    simp only [runS] at hr
    split at hr
    · rename_i g hg
      cases hr
      exact runS_plain hcy hy hc' ⟨g, hg, rfl⟩ har hrep hu
    · cases hr
  | loop c =>
    intro X ι e d u σ f a w m hc hr har hrep hu
    have hc' := hc
    simp only [compC] at hc
    split at hc
    case h_2 => cases hc
    cases hc
    simp only [runS] at hr
    split at hr
    · rename_i g hg
      cases hr
      exact runS_plain hcy hy hc' ⟨g, hg, rfl⟩ har hrep hu
    · cases hr
  | scope c ih =>
    intro X ι e d u σ f a w m hc hr har hrep hu
    simp only [compC] at hc
    refine wpS_scope_straight (wpS_mono (ih hc hr har hrep hu) ?_)
    rintro x a cs' w ⟨κ, m', h1, h2, h3, h4, h5, h6⟩
    have hp : PostS P ι σ N f c₀ cs x a cs' w := ⟨κ, m', h1, h2, h3, h4, h5, h6⟩
    cases x with
    | goto l => cases hx : f.f.x <;> rw [hx] at h4 <;> simp only [XRel] at h4
    | _ => exact hp
  | rangeFunc g ps ca cb =>
    intro X ι e d u σ f a w m hc hr har hrep hu
    have hc' := hc
    simp only [compC] at hc
    split at hc
    case h_2 => cases hc
    split at hc
    case h_2 => cases hc
    split at hc
    case h_2 => cases hc
    split at hc
    case h_2 => cases hc
    cases hc
    simp only [runS] at hr
    split at hr
    · rename_i g hg
      cases hr
      exact runS_plain hcy hy hc' ⟨g, hg, rfl⟩ har hrep hu
    · cases hr
  | _ =>
    intro X ι e d u σ f a w m hc hr har hrep hu
    cases hc
    simp [runS, run] at hr

end Go.Den
end

section
/- A call of the interpreter's is a call of the model's. -/
namespace Go.Den

variable [Gh] {P : Program}

/-- A function as the interpreter has it. -/
def FnIs (P : Program) (f : Nat) (F : F) : Prop := ∃ fn c tabs kf, P.funcs[f]? = some fn ∧ (fn.name == "runtime.NumGoroutine") = false ∧ fn.body = some c ∧ compF P tabs kf fn = some F

theorem envOf_get : ∀ {l : List V} {i t : Nat} {v : V}, E.get (envOf i l) t = some v → i ≤ t ∧ l[t - i]? = some v
  | [], i, t, v, h => by simp [envOf, E.get] at h
  | x :: l, i, t, v, h => by
    simp only [envOf, E.get] at h
    split at h
    · rename_i hb
      have := Nat.eq_of_beq_eq_true hb
      subst this
      exact ⟨Nat.le_refl _, by simpa using h⟩
    · obtain ⟨h1, h2⟩ := envOf_get h
      refine ⟨by omega, ?_⟩
      rw [show t - i = (t - (i + 1)) + 1 by omega]
      simpa using h2

theorem AR.start {ι : Inj} {args : List V} {xs : List Value} (h : gams ι args = some xs) (N : Nat) :
    AR ι N (envOf 0 args) [] { tmps := xs.toArray ++ Array.replicate (N - xs.toArray.size) undef, defers := [] } := by
  refine ⟨by simp; omega, fun {t v} ht => ?_, trivial⟩
  obtain ⟨_, h2⟩ := envOf_get ht
  rw [Nat.sub_zero] at h2
  obtain ⟨x, h3, h4⟩ := gams_get h h2
  have hlt : t < xs.length := (List.getElem?_eq_some_iff.1 h3).1
  refine ⟨x, ?_, h4⟩
  rw [Array.getElem?_append_left (by simpa using hlt)]
  simpa using h3

theorem compF_spec {tabs : String → List Nat} {kf : Nat → Option (List Nat)} {fn : Func} {F : F} (h : compF P tabs kf fn = some F) {c : Code} (hb : fn.body = some c) :
    compC P tabs fn.ntmps kf c = some F.body ∧ compRV P fn.results.toList = some F.results := by
  unfold compF at h
  rw [hb] at h
  simp only at h
  split at h
  · rename_i x rs h1 h2
    cases h
    exact ⟨h1, h2⟩
  · cases h

theorem DRel.nil {ι : Inj} : ∀ {ds : List Deferred}, DRel ι [] ds → ds = []
  | [], _ => rfl
  | _ :: _, h => h.elim

theorem callsDIn_of_wpS {n : Nat} {f : FuncId} {fn : Func} {c : Code} {args : Array Value} {u : FrameMode} {w : World} {R : Ending → FrameMode → World → Prop}
    (hf : P.funcs[f]? = some fn) (hb : fn.body = some c)
    (h : ∀ (c₀ : Frame) (cs : List Frame), c₀.mode = u →
      c.wpS P (bodyPostS P fn c₀ cs R) { tmps := args ++ Array.replicate (fn.ntmps - args.size) undef, defers := [] } (c₀ :: cs) w) :
    CallsDIn Fence.wide n P f args u w R := by
  refine ⟨trivial, fun c₀ cs hu _ => ?_⟩
  let b : Frame := { (default : Frame) with fn := f, kind := .deferred }
  have henter : Frame.enter P f args .deferred =
      b.at { tmps := args ++ Array.replicate (fn.ntmps - args.size) undef, defers := [] } [.code c] := by
    simp [Frame.enter, Frame.at, hf, hb, b]
  obtain ⟨e, a', cs', w', hq, harr⟩ := h c₀ cs hu b [] rfl rfl
  rw [← henter] at harr
  cases e with
  | normal =>
    obtain ⟨hd, u', rfl, v, hr, hR⟩ := hq
    exact ⟨.returned v, u', w', _, hR, comesIn_wide.2 (Steps.trans harr (.one step_end)), rfl, rfl, rfl, hd, fn, hf, hr⟩
  | ret =>
    obtain ⟨hd, u', rfl, v, hr, hR⟩ := hq
    obtain ⟨todo, hs⟩ := harr
    exact ⟨.returned v, u', w', _, hR, comesIn_wide.2 hs, rfl, rfl, rfl, hd, fn, hf, hr⟩
  | panic chain =>
    obtain ⟨hd, u', rfl, hR⟩ := hq
    obtain ⟨todo, hs⟩ := harr
    exact ⟨.panicked chain, u', w', _, hR, comesIn_wide.2 hs, rfl, rfl, rfl, hd, fn, hf⟩
  | exit id => exact hq.elim
  | goto l => exact hq.elim
  | outgrown =>
    obtain ⟨u', hR⟩ := hq
    exact ⟨.outgrown, u', w', b, hR, comesIn_wide.2 (harr.resolve_left (by simp [b])), rfl, rfl, trivial⟩

/-- A block that is given up, whatever becomes of it. -/
theorem Rep.drop {ι : Inj} {σ : St} {w w' : World} (h : Rep P ι σ w) {i : Nat} {l : Loc} {b : Blk} (hi : ι i = some l) (hb : σ.at i = some b)
    (hrw : b.rw = true) (hs : Sm w w') (hsame : ∀ k, k ≠ l.b → w'.heap[k]? = w.heap[k]?) : Rep P ι (σ.put i none) w' := by
  have hnl : b.isLp = false := rw_isLp hrw
  have hf := h.fix_put hb hnl none
  have hat : ∀ {j o}, (σ.put i none).at j = some o → j ≠ i ∧ σ.at j = some o := by
    intro j o ho
    by_cases e : j = i
    · subst e; rw [St.at_put, if_pos rfl] at ho; cases ho
    · rw [St.at_put, if_neg e] at ho; exact ⟨e, ho⟩
  refine ⟨fun hj => h.low hj, fun hj ho => ?_, keep_write h.kept (h.own hi hb hrw) hsame hs hf, fun hj ho hr => h.own hj (hat ho).2 hr, fun {_} hi => h.fixd_of (τ := σ.put i none) (Nat.le_refl _) hf hi, h.locd, fun hj ho => h.org hj (hat ho).2,
    fun hj hk hoj hok hne hr => h.inj hj hk (hat hoj).2 (hat hok).2 hne hr, h.glob⟩
  obtain ⟨e, ho⟩ := hat ho
  have hne := h.inj hi hj hb ho (fun e' => e e'.symm) hrw
  exact (h.obj hj ho).heap (hsame _ (fun e' => hne e'.symm))

theorem leave_sim {K : Nat → Option F} (hK : ∀ f F, K f = some F → FnIs P f F) {cy : Call → Call} (hcy : ∀ (G : Gh) y, @CallOK G P y → @CallOK G P (cy y)) {y : Call} (hy : CallOK P y) {n q N : Nat} {fn : Func} {rs : List RV} (hrs : compRV P fn.results.toList = some rs) {e : E} {ι₀ : Inj} {σ₀ : St} {E : End} {τ : St} :
    ∀ {d : D} {ds : List Deferred} {u : Option Chain} {σ : St} {w : World} {m : FrameMode} {ι : Inj} {tmps : Array Value}, leave K cy y n rs e d u σ = some (E, τ) → Ext ι₀ ι σ₀ σ → AR ι N e [] { tmps := tmps, defers := [] } → DRel ι d ds →
      Rep P ι σ w → URel ι u m → LeavesInM Fence.wide q P fn tmps (EPost P ι₀ σ₀ E τ) ds m w
  | [], ds, u, σ, w, m, ι, tmps, h, hext, har, hd, hrep, hu => by
    have := hd.nil
    subst this
    cases u with
    | none =>
      cases m <;> simp only [URel] at hu
      simp only [leave] at h
      split at h
      · rename_i vs hvs
        cases h
        obtain ⟨x, h1, h2⟩ := results_sim har hrep hrs hvs
        exact ⟨x, h1, ι, hext, hrep, h2⟩
      · cases h
    | some ch =>
      cases m <;> simp only [URel] at hu
      simp only [leave, Option.some.injEq, Prod.mk.injEq] at h
      obtain ⟨rfl, rfl⟩ := h
      exact ⟨ι, hext, hrep, hu⟩
  | (g, cap, args) :: d, ds, u, σ, w, m, ι, tmps, h, hext, har, hd, hrep, hu => by
    have hmr : m ≠ .run := by rintro rfl; cases u <;> exact hu.elim
    cases ds with
    | nil => exact hd.elim
    | cons qd ds =>
      obtain ⟨hone, hd⟩ := hd
      rcases hone with ⟨hny, c, a, rfl, hc, ha⟩ | ⟨i, l, rfl, rfl, hil⟩
      case inr =>
        simp only [leave] at h
        split at h
        case h_2 => cases h
        rename_i hdf
        have hheap : w.heap[l.b]? = some (.deferred (some [])) := hrep.obj hil hdf
        refine ⟨hmr, .inl ⟨l.b, _, rfl, run_takeDeferred hheap, ?_⟩⟩
        have hrep' := hrep.drop (w' := w.putObj l.b (.deferred none)) hil hdf rfl ⟨rfl, rfl⟩ (fun k hk => World.putObj_heap_other hk)
        refine leave_sim hK hcy hy hrs h (hext.trans (Ext.put hil none)) har hd hrep' hu
      simp only [leave] at h
      split at h
      case h_2 => exact absurd rfl (hny _)
      case h_3 => cases h
      rename_i f
      split at h
      · cases h
      rename_i F hF
      obtain ⟨fn', body, tabs, kf, hf, hn, hb, hcf⟩ := hK f F hF
      obtain ⟨hbody, hres⟩ := compF_spec hcf hb
      have hgl := gams_append ha hc
      refine ⟨hmr, .inr ⟨(fun h => by cases h), .func f, c.toArray, f, a.toArray ++ c.toArray, rfl, by simp only [invoke]; exact run_callFunc hf hn hb, fun _ _ => trivial, ?_⟩⟩
      split at h
      · cases h
      rename_i x e' d' σ' u' hrun
      split at h
      case h_2 => cases h
      have hst := AR.start hgl fn'.ntmps
      have hargs : a.toArray ++ c.toArray = (a ++ c).toArray := by simp
      rw [hargs]
      refine callsDIn_of_wpS hf hb fun c₀ cs hm => ?_
      have hsame : ({ c₀ with mode := m } : Frame) = c₀ := by subst hm; rfl
      have hw := runS_sim (c₀ := c₀) (cs := cs) hcy hy body hbody hrun hst hrep hu
      rw [hsame] at hw
      refine wpS_mono hw ?_
      rintro x' a' cs' w' ⟨κ, m', e1, e2, e3, e4, e5, e6⟩
      simp only at e1 e2 e3 e4 e6
      have hdef := e3.dfr.nil
      have hext' := hext.trans e1
      have har' := har.mono e1.le
      have hd' := hd.mono e1.le
      cases x with
      | nrm =>
        cases x' <;> simp only [XRel] at e4
        simp only at h
        split at h
        case h_2 => cases h
        rename_i vs hvs
        obtain ⟨y, y1, y2⟩ := results_sim e3 e2 hres hvs
        exact ⟨hdef, m', e5, y, y1, leave_sim hK hcy hy hrs h hext' har' hd' e2 (settle_sim e6)⟩
      | ret =>
        cases x' <;> simp only [XRel] at e4
        simp only at h
        split at h
        case h_2 => cases h
        rename_i vs hvs
        obtain ⟨y, y1, y2⟩ := results_sim e3 e2 hres hvs
        exact ⟨hdef, m', e5, y, y1, leave_sim hK hcy hy hrs h hext' har' hd' e2 (settle_sim e6)⟩
      | pan ch =>
        cases x' <;> simp only [XRel] at e4
        simp only at h
        exact ⟨hdef, m', e5, leave_sim hK hcy hy hrs h hext' har' hd' e2 (raised_sim e6 e4)⟩
      | exit id => simp only at h; cases h

theorem Enters.any {f : Nat} {xs : Array Value} {w : World} {R : Ending → World → Prop} {ι : Inj} (hlt : f < yBase) (h : Enters P f xs w R) : EntersY P ι f xs w R := .inl ⟨hlt, h⟩

/-- One function, its calls being given. -/
theorem fn_sim (hP : P.funcs.size ≤ yBase) {K : Nat → Option F} (hK : ∀ f F, K f = some F → FnIs P f F) {cy : Call → Call} (hcy : ∀ (G : Gh) y, @CallOK G P y → @CallOK G P (cy y)) {y : Call} (hy : CallOK P y) {n f : Nat} {F : F} (hF : FnIs P f F) {ι : Inj} {σ : St} {w : World} {args : List V} {xs : List Value} {E : End} {τ : St}
    (h : (match run cy y n F.body (envOf 0 args) [] σ with
      | none => none
      | some ⟨x, e, d, τ⟩ => match x with
        | .nrm | .ret => leave K cy y n F.results e d none τ
        | .pan ch => leave K cy y n F.results e d (some ch) τ
        | .exit _ => none) = some (E, τ)) (hx : gams ι args = some xs) (hrep : Rep P ι σ w) : EntersY P ι f xs.toArray w (EPost P ι σ E τ) := by
  obtain ⟨fn, body, tabs, kf, hf, hn, hb, hcf⟩ := hF
  obtain ⟨hbody, hres⟩ := compF_spec hcf hb
  refine .inl ⟨Nat.lt_of_lt_of_le (Array.getElem?_eq_some_iff.1 hf).1 hP, ?_⟩
  unfold Enters
  rw [run_callFunc hf hn hb]
  simp only
  refine callsIn_wide.1 (callsIn_of_wp_marks (n := 0) hf hb trivial ?_)
  split at h
  · cases h
  rename_i x e d τ' hrun
  have hw := run_sim (m := 0) hcy body (F := Fence.wide) (.inl rfl) hy hbody (.inl rfl) hrun (AR.start hx fn.ntmps) hrep
  refine wpIn_mono hw ?_
  rintro x' a' w' ⟨κ, e1, e2, e3, e4⟩
  simp only at e1 e2 e3 e4
  have har : AR κ fn.ntmps e [] { tmps := a'.tmps, defers := [] } := ⟨e3.size, e3.env, trivial⟩
  cases x with
  | nrm =>
    cases x' <;> simp only [XRel] at e4
    exact leave_sim hK hcy hy hres h e1 har e3.dfr e2 trivial
  | ret =>
    cases x' <;> simp only [XRel] at e4
    exact leave_sim hK hcy hy hres h e1 har e3.dfr e2 trivial
  | pan ch =>
    cases x' <;> simp only [XRel] at e4
    exact leave_sim hK hcy hy hres h e1 har e3.dfr e2 e4
  | exit id => simp only at h; cases h

theorem CallOK.none : CallOK P (fun _ _ _ => none) := fun _ _ _ _ _ _ _ _ h => by cases h

/-- The library's functions, and rounds. -/
theorem primY_ok {prim y : Call} (hp : CallOK P prim) (hy : CallOK P y) : CallOK P (primY prim y) := by
  intro ι σ w f args xs E τ h hx hrep
  unfold primY at h
  split at h
  · exact hp ι σ w f args xs E τ h hx hrep
  · exact hy ι σ w f args xs E τ h hx hrep

theorem dfn_sim (hP : P.funcs.size ≤ yBase) {K : Nat → Option F} (hK : ∀ f F, K f = some F → FnIs P f F) {prim : Call} (hp : ∀ G : Gh, @CallOK G P prim) : ∀ n (G : Gh) y, @CallOK G P y → @CallOK G P (dfn K prim n y)
  | 0, _, _, _ => CallOK.none
  | n + 1, G, y, hy => by
    intro ι σ w f args xs E τ h hx hrep
    simp only [dfn] at h
    split at h
    · exact primY_ok (hp G) hy ι σ w f args xs E τ h hx hrep
    · rename_i F hF
      exact fn_sim hP hK (dfn_sim hP hK hp n) hy (hK f F hF) h hx hrep

end Go.Den
end

section
/- The fast form is the interpreter's. -/
namespace Go.Den

variable [Gh] {P : Program}

theorem toO_eq (c : Call) (o : Ins) (k : M) (e : E) (d : D) (σ : St) : toO c o k e d σ = match wanted e o.guard with
    | none => none
    | some false => k (e.put o.dst undefV) d σ
    | some true => match step c o e σ with
      | none => none
      | some (.ok v σ') => k (e.put o.dst v) d σ'
      | some (.pan ch σ') => some ⟨.pan ch, e, d, σ'⟩
      | some (.dfr fn cap args σ') => k (e.put o.dst undefV) ((fn, cap, args) :: d) σ' := by
  have hO : ∀ (h : H) (as : List A), qO c o.dst (fOf h) as k e d σ = match step c { o with h := h, args := as } e σ with
      | none => none
      | some (.ok v σ') => k (e.put o.dst v) d σ'
      | some (.pan ch σ') => some ⟨.pan ch, e, d, σ'⟩
      | some (.dfr fn cap args σ') => k (e.put o.dst undefV) ((fn, cap, args) :: d) σ' := by
    intro h as
    rw [fOf_eq]
    simp only [qO, step]
    cases evs e as with
    | none => rfl
    | some vs =>
      simp only
      cases sem h vs σ with
      | none => rfl
      | some out =>
        cases out with
        | enter g xs τ =>
          simp only
          cases c g xs τ with
          | none => rfl
          | some r =>
            obtain ⟨en, υ⟩ := r
            cases en <;> rfl
        | round g xs τ =>
          simp only
          cases c (yBase + g) xs τ with
          | none => rfl
          | some r =>
            obtain ⟨en, υ⟩ := r
            cases en <;> rfl
        | _ => rfl
  obtain ⟨dst, h, as, g⟩ := o
  cases g with
  | none =>
    simp only [toO, wanted]
    split
    · rename_i a
      simp only [qM, step, evs]
      cases ev e a with
      | none => rfl
      | some v => rfl
    · exact hO h as
  | some tb =>
    obtain ⟨t, b⟩ := tb
    simp only [toO, qG, wanted]
    cases E.get e t with
    | none => rfl
    | some v =>
      cases v with
      | bool x =>
        simp only
        cases x <;> cases b <;> first
          | rfl
          | exact hO h as
      | _ => rfl

theorem toOs_eq (c : Call) (ts : Option (List Nat)) : ∀ (l : List Ins) (e : E) (d : D) (σ : St), toOs c ts l e d σ = match ops c l e d σ with
    | some ⟨.nrm, e', d', σ'⟩ => some ⟨.nrm, keep e' ts, d', σ'⟩
    | r => r
  | [], e, d, σ => rfl
  | o :: l, e, d, σ => by
    simp only [toOs, ops]
    rw [toO_eq]
    cases wanted e o.guard with
    | none => rfl
    | some b =>
      cases b with
      | false => exact toOs_eq c ts l _ _ _
      | true =>
        simp only
        cases step c o e σ with
        | none => rfl
        | some r =>
          cases r with
          | ok v τ => exact toOs_eq c ts l _ _ _
          | pan ch τ => rfl
          | dfr fn cap args τ => exact toOs_eq c ts l _ _ _

theorem toM_eq (cy : Call → Call) (n : Nat) : ∀ (x : C) (y : Call) (e : E) (d : D) (σ : St), toM cy y n x e d σ = run cy y n x e d σ := by
  intro x
  induction x with
  | skip => intro y e d σ; rfl
  | reg l k => intro y e d σ; exact toOs_eq (cy y) k l e d σ
  | dreg l k =>
    intro y e d σ
    simp only [toM, qD, run]
    cases dreg (cy y) l e d σ with
    | none => rfl
    | some r => obtain ⟨rx, re, rd, rs⟩ := r; cases rx <;> rfl
  | seq x z ihx ihy =>
    intro y e d σ
    simp only [toM, qS, run, ihx]
    cases run cy y n x e d σ with
    | none => rfl
    | some r =>
      obtain ⟨rx, re, rd, rs⟩ := r
      cases rx <;> first
        | rfl
        | exact ihy y re rd rs
  | cond a x z ihx ihy =>
    intro y e d σ
    simp only [toM, qC, run]
    cases ev e a with
    | none => rfl
    | some v =>
      cases v with
      | bool b => cases b <;> first
        | exact ihx y e d σ
        | exact ihy y e d σ
      | _ => rfl
  | block id x ih =>
    intro y e d σ
    simp only [toM, qB, run, ih]
    cases run cy y n x e d σ with
    | none => rfl
    | some r =>
      obtain ⟨rx, re, rd, rs⟩ := r
      cases rx <;> rfl
  | loop x ih =>
    intro y e d σ
    have : toM cy y n x = run cy y n x := funext fun e => funext fun d => funext fun σ => ih y e d σ
    simp only [toM, run, this]
  | rangeF its g ps a b iha ihb =>
    intro y e d σ
    have h1 : toM cy noY n a = run cy noY n a := funext fun e => funext fun d => funext fun σ => iha noY e d σ
    have h2 : toM cy noY n b = run cy noY n b := funext fun e => funext fun d => funext fun σ => ihb noY e d σ
    simp only [toM, qR, run, h1, h2]
  | exit id => intro y e d σ; rfl
  | ret => intro y e d σ; rfl
  | bad => intro y e d σ; rfl

/-- A function, fast. -/
def QIs (P : Program) (f : Nat) (Q : QF) : Prop := ∃ G : F, FnIs P f G ∧ Q.rs = G.results ∧ ∀ cy y n, Q.q cy y n = toM cy y n G.body

end Go.Den
end
