/-
  The engine: a walk over values up to the bits of a NaN, and over the blocks that are tracked. Control, lists of operations, calls.
-/
import Derived.Test.YtnonlibekcacgaaEngA
namespace Go.Proofs.Ytnonlibekcacgaa.En
open Go
set_option linter.unusedVariables false

abbrev Sg := Nat → Option (TypeId × List Value)
abbrev Fr := Nat → Value
def sg (σ : Sg) (b : Nat) (x : TypeId × List Value) : Sg := fun n => bif Nat.beq n b then some x else σ n
theorem sg_eq (σ : Sg) (b : Nat) (x) : sg σ b x b = some x := by
  have : Nat.beq b b = true := Nat.beq_refl b
  simp [sg]
theorem sg_ne {σ : Sg} {b b' : Nat} {x} (h : b' ≠ b) : sg σ b x b' = σ b' := by
  have : Nat.beq b' b = false := by
    cases hb : Nat.beq b' b with
    | false => rfl
    | true => exact absurd (Nat.eq_of_beq_eq_true hb) h
  simp [sg, this]
theorem sg_keep {σ : Sg} {b b' : Nat} {x y} (h : σ b = none) (h' : σ b' = some y) : sg σ b x b' = some y := by
  rw [sg_ne (fun e => by rw [e, h] at h'; cases h')]; exact h'
def Ext (σ σ' : Sg) : Prop := ∀ b x, σ b = some x → σ' b = some x
theorem Ext.refl (σ : Sg) : Ext σ σ := fun _ _ h => h
theorem Ext.trans {a b c : Sg} (h : Ext a b) (k : Ext b c) : Ext a c := fun x y hx => k x y (h x y hx)
theorem Ext.sg {σ σ' : Sg} {b : Nat} {x} (h : Ext σ σ') (hb : σ b = none) : Ext σ (sg σ' b x) := fun b' y hy => by
  rw [sg_ne (fun e => by rw [e, hb] at hy; cases hy)]; exact h b' y hy

/-- the world as far as it is tracked: below the law's own first block it is as it was; a tracked block holds what it holds, up to NaNs -/
structure Sat (w0 : World) (σ : Sg) (w : World) : Prop where
  below : RowKit.Below w0.heap.size w0 w
  own : ∀ b e cs, σ b = some (e, cs) → ∃ c f, w.heap[b]? = some (.cells c e f) ∧ c.toList.map n0 = cs.map n0 ∧ (w0.heap.size ≤ b → f = (0, 0))

theorem Sat.weaken {w0 w : World} {σ σ' : Sg} (h : Sat w0 σ' w) (hx : Ext σ σ') : Sat w0 σ w := ⟨h.below, fun b e cs hb => h.own b e cs (hx b _ hb)⟩
theorem Sat.heap {w0 w w' : World} {σ : Sg} (h : Sat w0 σ w) (hh : w'.heap = w.heap) (ho : w'.os = w.os) (ht : w'.tape = w.tape) (hu : w'.output = w.output) : Sat w0 σ w' :=
  ⟨⟨ho.trans h.below.os, ht.trans h.below.tape, hu.trans h.below.output, by rw [hh]; exact h.below.size, fun k hk => by rw [hh]; exact h.below.block k hk⟩, fun b e cs hb => by rw [hh]; exact h.own b e cs hb⟩
theorem Sat.drawn {w0 w : World} {σ : Sg} (h : Sat w0 σ w) (n : Nat) : Sat w0 σ { w with drawn := n } := h.heap rfl rfl rfl rfl
theorem Sat.fresh {w0 w : World} {σ : Sg} (h : Sat w0 σ w) : σ w.heap.size = none := by
  cases hs : σ w.heap.size with
  | none => rfl
  | some x =>
    obtain ⟨c, f, hc, _⟩ := h.own _ x.1 x.2 hs
    simp at hc
theorem Sat.lt {w0 w : World} {σ : Sg} (h : Sat w0 σ w) {b : Nat} {x} (hb : σ b = some x) : b < w.heap.size := by
  obtain ⟨c, f, hc, _⟩ := h.own _ x.1 x.2 hb
  exact (Array.getElem?_eq_some_iff.1 hc).1
/-- a new block, tracked -/
theorem Sat.new {w0 w : World} {σ : Sg} (h : Sat w0 σ w) (c : Array Value) (e : TypeId) (cs : List Value) (hc : c.toList.map n0 = cs.map n0) :
    Sat w0 (sg σ w.heap.size (e, cs)) { w with heap := w.heap.push (.cells c e) } := by
  refine ⟨⟨h.below.os, h.below.tape, h.below.output, by simp; have := h.below.size; omega, fun k hk => ?_⟩, fun b e' cs' hb => ?_⟩
  · show (w.heap.push _)[k]? = _
    rw [Array.getElem?_push, if_neg (by have := h.below.size; omega)]
    exact h.below.block k hk
  · by_cases hbb : b = w.heap.size
    · subst hbb
      rw [sg_eq] at hb
      cases hb
      exact ⟨c, (0, 0), by simp, hc, fun _ => rfl⟩
    · rw [sg_ne hbb] at hb
      obtain ⟨c', f, hc', rest⟩ := h.own b e' cs' hb
      refine ⟨c', f, ?_, rest⟩
      show (w.heap.push _)[b]? = _
      rw [Array.getElem?_push, if_neg hbb]
      exact hc'
/-- a new block, not tracked -/
theorem Sat.junk {w0 w : World} {σ : Sg} (h : Sat w0 σ w) (c : Array Value) (e : TypeId) : Sat w0 σ { w with heap := w.heap.push (.cells c e) } :=
  (h.new c e c.toList rfl).weaken ((Ext.refl σ).sg h.fresh)
/-- a cell written -/
theorem Sat.set {w0 w : World} {σ : Sg} (h : Sat w0 σ w) {b off : Nat} {e : TypeId} {cs : List Value} {u v : Value} (hb : σ b = some (e, cs)) (hw : w0.heap.size ≤ b) (hv : n0 u = n0 v) :
    Sat w0 (sg σ b (e, cs.set off v)) (w.setCell ⟨b, off, none⟩ u) := by
  obtain ⟨c, f, hc, hcs, hf⟩ := h.own b e cs hb
  have hlt := (Array.getElem?_eq_some_iff.1 hc).1
  refine ⟨⟨h.below.os, h.below.tape, h.below.output, ?_, fun k hk => ?_⟩, fun b' e' cs' hb' => ?_⟩
  · simp only [World.setCell, Array.size_modify]; exact h.below.size
  · rw [RowKit.Below.heap_setCell _ _ _ _ (by simp; omega)]
    exact h.below.block k hk
  · by_cases hbb : b' = b
    · subst hbb
      rw [sg_eq] at hb'
      cases hb'
      refine ⟨c.setIfInBounds off u, f, ?_, ?_, hf⟩
      · simp only [World.setCell, Array.getElem?_modify, if_pos, hc]
        rfl
      · simp [List.map_set, hcs, hv]
    · rw [sg_ne hbb] at hb'
      obtain ⟨c', f', hc', rest⟩ := h.own b' e' cs' hb'
      refine ⟨c', f', ?_, rest⟩
      rw [RowKit.Below.heap_setCell _ _ _ _ (by simp; omega)]
      exact hc'

/-- what a tracked cell reads as -/
def Rd (σ : Sg) (b off : Nat) (v : Value) : Prop := ∃ e cs, σ b = some (e, cs) ∧ cs[off]? = some v
theorem Sat.cell {w0 w : World} {σ : Sg} (h : Sat w0 σ w) {b off : Nat} {v : Value} (hr : Rd σ b off v) : ∃ u, w.cell? ⟨b, off, none⟩ = some u ∧ n0 u = n0 v := by
  obtain ⟨e, cs, hb, ho⟩ := hr
  obtain ⟨c, f, hc, hcs, _⟩ := h.own b e cs hb
  have : (c.toList.map n0)[off]? = (cs.map n0)[off]? := by rw [hcs]
  simp only [List.getElem?_map, ho, Option.map_some] at this
  cases hu : c.toList[off]? with
  | none => rw [hu] at this; simp at this
  | some u =>
    rw [hu] at this
    simp at this
    refine ⟨u, ?_, this⟩
    simp only [World.cell?, hc]
    simpa using hu
theorem Sat.unfrozen {w0 w : World} {σ : Sg} (h : Sat w0 σ w) {b off : Nat} {x} (hb : σ b = some x) (hw : w0.heap.size ≤ b) : w.frozen? ⟨b, off, none⟩ = false := by
  obtain ⟨c, f, hc, _, hf⟩ := h.own b x.1 x.2 hb
  simp [World.frozen?, hc, hf hw]

/-! ### frames -/
def upd (t : Fr) (d : Nat) (v : Value) : Fr := fun n => bif Nat.beq n d then v else t n
theorem upd_eq (t : Fr) (d : Nat) (v) : upd t d v d = v := by
  have : Nat.beq d d = true := Nat.beq_refl d
  simp [upd]
theorem upd_ne {t : Fr} {d n : Nat} {v} (h : n ≠ d) : upd t d v n = t n := by
  have : Nat.beq n d = false := by
    cases hb : Nat.beq n d with
    | false => rfl
    | true => exact absurd (Nat.eq_of_beq_eq_true hb) h
  simp [upd, this]
theorem upd_self {t : Fr} {d : Nat} {v : Value} (h : t d = v) : upd t d v = t := by
  funext n
  by_cases hn : n = d
  · subst hn; rw [upd_eq, h]
  · rw [upd_ne hn]
def ev (N : Nat) (t : Fr) : Operand → Value
  | .tmp n => bif Nat.blt n N then t n else undef
  | .const v => v
  | .global g => .pointer (some ⟨g, 0, none⟩)
  | .func f => .func (.func f) #[] #[]
structure Rel (N : Nat) (t : Fr) (a : Act) : Prop where
  defers : a.defers = []
  size : a.tmps.size = N
  slot : ∀ n, n < N → norm (a.tmps.getD n undef) = norm (t n)
theorem Rel.eval {N : Nat} {t : Fr} {a : Act} (h : Rel N t a) (x : Operand) : norm (a.eval x) = norm (ev N t x) := by
  cases x with
  | tmp n =>
    simp only [Act.eval, ev]
    cases hn : Nat.blt n N with
    | true => exact h.slot n (Nat.le_of_ble_eq_true hn)
    | false =>
      have : ¬ n < N := fun hh => by rw [show Nat.blt n N = true from Nat.ble_eq_true_of_le hh] at hn; cases hn
      have hs := h.size
      have h2 : ¬ (n : Nat) < a.tmps.size := by rw [hs]; exact this
      have h3 : a.tmps[n]? = none := Array.getElem?_eq_none (Nat.le_of_not_lt h2)
      simp [h3]
  | _ => rfl
theorem Rel.put {N : Nat} {t : Fr} {a : Act} (h : Rel N t a) (d : Nat) {u v : Value} (hv : norm u = norm v) : Rel N (upd t d v) (a.put (some d) u) := by
  refine ⟨h.defers, by simp [Act.put, h.size], fun n hn => ?_⟩
  have hs := h.size
  by_cases hnd : n = d
  · subst hnd
    rw [upd_eq]
    simp [Act.put, show n < a.tmps.size by omega, hv]
  · rw [upd_ne hnd]
    have := h.slot n hn
    simp only [Act.put]
    rw [show (a.tmps.setIfInBounds d u).getD n undef = a.tmps.getD n undef by simp [Array.getElem?_setIfInBounds_ne (Ne.symm hnd)]]
    exact this
theorem Rel.put_none {N : Nat} {t : Fr} {a : Act} (h : Rel N t a) (u : Value) : Rel N t (a.put none u) := h

/-! ### code -/
section
variable {P : Program} {w0 : World} {N : Nat}

def post (N : Nat) (w0 : World) (Q : Exit → Fr → Sg → Prop) : Exit → Act → World → Prop := fun e a w => ∃ t σ, Rel N t a ∧ Sat w0 σ w ∧ Q e t σ
def W (P : Program) (w0 : World) (N : Nat) (c : Code) (Q : Exit → Fr → Sg → Prop) (t : Fr) (σ : Sg) : Prop :=
  ∀ a w, Rel N t a → Sat w0 σ w → c.wp P (post N w0 Q) a w
def thenE (K : Fr → Sg → Prop) (Q : Exit → Fr → Sg → Prop) : Exit → Fr → Sg → Prop
  | .normal, t, σ => K t σ
  | e, t, σ => Q e t σ
def blockE (id : Nat) (Q : Exit → Fr → Sg → Prop) : Exit → Fr → Sg → Prop
  | .exit i, t, σ => bif Nat.beq i id then Q .normal t σ else Q (.exit i) t σ
  | e, t, σ => Q e t σ
theorem W.mono {c : Code} {Q Q' : Exit → Fr → Sg → Prop} {t : Fr} {σ : Sg} (h : W P w0 N c Q t σ) (hq : ∀ e t σ, Q e t σ → Q' e t σ) : W P w0 N c Q' t σ :=
  fun a w hr hs => wp_mono (h a w hr hs) fun e a w ⟨t, σ, h1, h2, h3⟩ => ⟨t, σ, h1, h2, hq _ _ _ h3⟩
theorem W.seq {x y : Code} {Q} {t : Fr} {σ : Sg} (h : W P w0 N x (thenE (W P w0 N y Q) Q) t σ) : W P w0 N (.seq x y) Q t σ :=
  fun a w hr hs => wp_seq (wp_mono (h a w hr hs) fun e a w ⟨t, σ, h1, h2, h3⟩ => by
    cases e with
    | normal => exact h3 a w h1 h2
    | _ => exact ⟨t, σ, h1, h2, h3⟩)
theorem W.skip {Q} {t : Fr} {σ : Sg} (h : Q .normal t σ) : W P w0 N .skip Q t σ := fun a w hr hs => wp_skip ⟨t, σ, hr, hs, h⟩
theorem W.ret {Q} {t : Fr} {σ : Sg} (h : Q .ret t σ) : W P w0 N .ret Q t σ := fun a w hr hs => wp_ret ⟨t, σ, hr, hs, h⟩
theorem W.exit {Q} {t : Fr} {σ : Sg} {id : Nat} (h : Q (.exit id) t σ) : W P w0 N (.exit id) Q t σ := fun a w hr hs => wp_exit ⟨t, σ, hr, hs, h⟩
theorem W.cond {Q} {t : Fr} {σ : Sg} {x : Operand} {c d : Code} {b : Bool} (hx : ev N t x = .bool b) (ht : b = true → W P w0 N c Q t σ) (hf : b = false → W P w0 N d Q t σ) : W P w0 N (.cond x c d) Q t σ :=
  fun a w hr hs => wp_cond_split (sim_bool (by rw [hr.eval, hx])) (fun h => ht h a w hr hs) (fun h => hf h a w hr hs)
theorem W.condT {Q} {t : Fr} {σ : Sg} {x : Operand} {c d : Code} {b : Bool} (hx : ev N t x = .bool b) (hb : b = true) (ht : W P w0 N c Q t σ) : W P w0 N (.cond x c d) Q t σ :=
  W.cond hx (fun _ => ht) (fun h => by rw [hb] at h; cases h)
theorem W.condF {Q} {t : Fr} {σ : Sg} {x : Operand} {c d : Code} {b : Bool} (hx : ev N t x = .bool b) (hb : b = false) (ht : W P w0 N d Q t σ) : W P w0 N (.cond x c d) Q t σ :=
  W.cond hx (fun h => by rw [hb] at h; cases h) (fun _ => ht)
theorem W.block {Q} {t : Fr} {σ : Sg} {id : Nat} {c : Code} (h : W P w0 N c (blockE id Q) t σ) : W P w0 N (.block id c) Q t σ :=
  fun a w hr hs => wp_block (wp_mono (h a w hr hs) fun e a w ⟨t, σ, h1, h2, h3⟩ => by
    cases e with
    | exit i =>
      simp only [Exit.inBlock]
      simp only [blockE] at h3
      by_cases hi : i = id
      · subst hi
        have : Nat.beq i i = true := Nat.beq_refl i
        rw [if_pos rfl]; rw [this] at h3; exact ⟨t, σ, h1, h2, h3⟩
      · have : Nat.beq i id = false := by
          cases hb : Nat.beq i id with
          | false => rfl
          | true => exact absurd (Nat.eq_of_beq_eq_true hb) hi
        rw [if_neg hi]; rw [this] at h3; exact ⟨t, σ, h1, h2, h3⟩
    | _ => exact ⟨t, σ, h1, h2, h3⟩)

theorem least {p : Nat → Prop} (h : ∃ n, p n) : ∃ n, p n ∧ ∀ m, p m → n ≤ m := by
  obtain ⟨n, hn⟩ := h
  induction n using Nat.strongRecOn with
  | _ n ih =>
    by_cases hm : ∃ m, m < n ∧ p m
    · obtain ⟨m, hlt, hp⟩ := hm; exact ih m hlt hp
    · exact ⟨n, hn, fun m hp => Nat.le_of_not_lt fun hlt => hm ⟨m, hlt, hp⟩⟩
/-- a loop: 'I n t σ' at each round's head, n a measure that goes down -/
theorem W.loop {Q} {t : Fr} {σ : Sg} {c : Code} (I : Nat → Fr → Sg → Prop) (n : Nat) (h0 : I n t σ)
    (round : ∀ n t σ, I n t σ → W P w0 N c (thenE (fun t' σ' => ∃ m, m < n ∧ I m t' σ') Q) t σ) : W P w0 N (.loop c) Q t σ := by
  classical
  intro a w hr hs
  let J : Act → World → Nat → Prop := fun a w n => ∃ t σ, Rel N t a ∧ Sat w0 σ w ∧ I n t σ
  let μ : Act → World → Nat := fun a w => if h : ∃ n, J a w n then Classical.choose (least h) else 0
  refine wp_loop (fun a w => ∃ n, J a w n) μ ⟨n, t, σ, hr, hs, h0⟩ fun a w hI => ?_
  have hμ : μ a w = Classical.choose (least hI) := dif_pos hI
  obtain ⟨hJ, hmin⟩ := Classical.choose_spec (least hI)
  obtain ⟨t, σ, h1, h2, h3⟩ := hJ
  refine wp_mono (round _ t σ h3 a w h1 h2) fun e a' w' ⟨t', σ', k1, k2, k3⟩ => ?_
  cases e with
  | normal =>
    obtain ⟨m, hm, k4⟩ := k3
    have hI' : ∃ n, J a' w' n := ⟨m, t', σ', k1, k2, k4⟩
    refine ⟨hI', ?_⟩
    have hμ' : μ a' w' = Classical.choose (least hI') := dif_pos hI'
    have := (Classical.choose_spec (least hI')).2 m ⟨t', σ', k1, k2, k4⟩
    rw [hμ, hμ']
    omega
  | _ => exact ⟨t', σ', k1, k2, k3⟩

/-! ### operations -/
def Res (P : Program) (w0 : World) (K : Value → Sg → Prop) : Result Next → Prop
  | .ok (.value u) w' => ∃ v σ', norm u = norm v ∧ Sat w0 σ' w' ∧ K v σ'
  | .ok .skip w' => ∃ σ', Sat w0 σ' w' ∧ K undef σ'
  | .ok (.enter f args) w' => Calls P f args w' fun e w'' => ∃ u v σ', e = .returned u ∧ norm u = norm v ∧ Sat w0 σ' w'' ∧ K v σ'
  | _ => False
def OpE (P : Program) (w0 : World) (N : Nat) (op : Op) (ty : TypeId) (t : Fr) (σ : Sg) (K : Value → Sg → Prop) : Prop :=
  ∀ a w, Rel N t a → Sat w0 σ w → Res P w0 K ((execOp a.eval ⟨none, op, ty, "", #[], none⟩).run P w)
/-- one value, nothing tracked has turned -/
def OpV (P : Program) (w0 : World) (N : Nat) (op : Op) (ty : TypeId) (t : Fr) (σ : Sg) (v : Value) : Prop := OpE P w0 N op ty t σ fun u σ' => u = v ∧ σ' = σ

theorem Res.mono {K K' : Value → Sg → Prop} {r : Result Next} (h : Res P w0 K r) (hk : ∀ v σ, K v σ → K' v σ) : Res P w0 K' r := by
  cases r with
  | ok n w =>
    cases n <;> simp only [Res] at h ⊢
    · obtain ⟨v, σ', h1, h2, h3⟩ := h; exact ⟨v, σ', h1, h2, hk _ _ h3⟩
    · obtain ⟨σ', h2, h3⟩ := h; exact ⟨σ', h2, hk _ _ h3⟩
    · exact h.mono fun e w ⟨u, v, σ', h1, h2, h3, h4⟩ => ⟨u, v, σ', h1, h2, h3, hk _ _ h4⟩
  | halt x w => exact h
theorem OpE.mono {op : Op} {ty : TypeId} {t : Fr} {σ : Sg} {K K' : Value → Sg → Prop} (h : OpE P w0 N op ty t σ K) (hk : ∀ v σ, K v σ → K' v σ) : OpE P w0 N op ty t σ K' :=
  fun a w hr hs => (h a w hr hs).mono hk
theorem execOp_eq (ρ : Operand → Value) (o : Oper) : execOp ρ o = execOp ρ ⟨none, o.op, o.type, "", #[], none⟩ := rfl

def L (P : Program) (w0 : World) (N : Nat) (ops : Array Oper) (l : List Oper) (Q : Exit → Fr → Sg → Prop) (t : Fr) (σ : Sg) : Prop :=
  ∀ a w, Rel N t a → Sat w0 σ w → wpList P ops (post N w0 Q) l a w
theorem W.region {Q} {t : Fr} {σ : Sg} {id : Nat} {l : List Oper} (h : L P w0 N l.toArray l Q t σ) : W P w0 N (.region id l.toArray false) Q t σ :=
  fun a w hr hs => wp_region_lit (h a w hr hs)
section
variable {ops : Array Oper} {Q : Exit → Fr → Sg → Prop} {t : Fr} {σ : Sg} {rest : List Oper} {op : Op} {ty : TypeId} {pos : String} {af : Array Edge}
theorem L.nil (h : Q .normal t σ) : L P w0 N ops [] Q t σ := fun a w hr hs => ⟨t, σ, hr, hs, h⟩
theorem upon_of_res {o : Oper} {a : Act} {K : Value → Sg → Prop} {next : Act → World → Prop} {Q' : Exit → Act → World → Prop} {r : Result Next} (h : Res P w0 K r)
    (hn : ∀ u v σ w, norm u = norm v → Sat w0 σ w → K v σ → next (a.put o.dst u) w) : o.upon P a next Q' r := by
  cases r with
  | ok n w =>
    cases n <;> simp only [Res] at h <;> simp only [Oper.upon]
    · obtain ⟨v, σ', h1, h2, h3⟩ := h; exact hn _ _ _ _ h1 h2 h3
    · obtain ⟨σ', h2, h3⟩ := h; exact hn _ _ _ _ rfl h2 h3
    · exact h.mono fun e w ⟨u, v, σ', h1, h2, h3, h4⟩ => by subst h1; exact hn _ _ _ _ h2 h3 h4
  | halt x w => exact h.elim
theorem L.cons {d : Nat} {K : Value → Sg → Prop} (h : OpE P w0 N op ty t σ K) (hk : ∀ v σ', K v σ' → L P w0 N ops rest Q (upd t d v) σ') : L P w0 N ops (⟨some d, op, ty, pos, af, none⟩ :: rest) Q t σ := by
  intro a w hr hs
  unfold wpList
  rw [if_pos (show Region.wanted _ _ = true from rfl)]
  refine .inl ?_
  unfold Oper.wp
  rw [execOp_eq]
  exact upon_of_res (h a w hr hs) fun u v σ' w' h1 h2 h3 => hk v σ' h3 _ _ (hr.put d h1) h2
theorem L.cons0 {K : Value → Sg → Prop} (h : OpE P w0 N op ty t σ K) (hk : ∀ v σ', K v σ' → L P w0 N ops rest Q t σ') : L P w0 N ops (⟨none, op, ty, pos, af, none⟩ :: rest) Q t σ := by
  intro a w hr hs
  unfold wpList
  rw [if_pos (show Region.wanted _ _ = true from rfl)]
  refine .inl ?_
  unfold Oper.wp
  rw [execOp_eq]
  exact upon_of_res (h a w hr hs) fun u v σ' w' h1 h2 h3 => hk v σ' h3 _ _ (hr.put_none u) h2
theorem L.v {d : Nat} {v : Value} (h : OpV P w0 N op ty t σ v) (hk : L P w0 N ops rest Q (upd t d v) σ) : L P w0 N ops (⟨some d, op, ty, pos, af, none⟩ :: rest) Q t σ :=
  L.cons h fun u σ' ⟨h1, h2⟩ => by subst h1; subst h2; exact hk
/-- a guard that says yes -/
theorem wanted_of {a : Act} {j d : Nat} {b want : Bool} {o : Oper} (hg : o.guard = some (j, want)) (hr : Rel N t a) (hj : (ops[j]?).bind (·.dst) = some d) (hN : Nat.blt d N = true) (ht : t d = .bool b) : Region.wanted o (yielded ops a.tmps) = (b == want) := by
  have hlt : d < N := Nat.le_of_ble_eq_true hN
  have hs := hr.size
  have h1 := hr.slot d hlt
  rw [ht] at h1
  have h2 : a.tmps[d]? = some (.bool b) := by
    have := sim_bool h1
    rw [Array.getElem?_eq_getElem (by omega)]
    simpa [show d < a.tmps.size by omega] using this
  simp only [Region.wanted, hg, yielded, hj, Option.bind_some, h2]
  cases b <;> cases want <;> rfl
theorem L.gT {j d₁ d : Nat} {want b : Bool} {K : Value → Sg → Prop} (hj : (ops[j]?).bind (·.dst) = some d₁) (hN : Nat.blt d₁ N = true) (ht : t d₁ = .bool b) (hb : b = want)
    (h : OpE P w0 N op ty t σ K) (hk : ∀ v σ', K v σ' → L P w0 N ops rest Q (upd t d v) σ') : L P w0 N ops (⟨some d, op, ty, pos, af, some (j, want)⟩ :: rest) Q t σ := by
  intro a w hr hs
  unfold wpList
  rw [if_pos (by rw [wanted_of rfl hr hj hN ht]; simp [hb])]
  refine .inl ?_
  unfold Oper.wp
  rw [execOp_eq]
  exact upon_of_res (h a w hr hs) fun u v σ' w' h1 h2 h3 => hk v σ' h3 _ _ (hr.put d h1) h2
theorem L.gv {j d₁ d : Nat} {want b : Bool} {v : Value} (hj : (ops[j]?).bind (·.dst) = some d₁) (hN : Nat.blt d₁ N = true) (ht : t d₁ = .bool b) (hb : b = want)
    (h : OpV P w0 N op ty t σ v) (hk : L P w0 N ops rest Q (upd t d v) σ) : L P w0 N ops (⟨some d, op, ty, pos, af, some (j, want)⟩ :: rest) Q t σ :=
  L.gT hj hN ht hb h fun u σ' ⟨h1, h2⟩ => by subst h1; subst h2; exact hk
theorem L.gF {j d₁ d : Nat} {want b : Bool} (hj : (ops[j]?).bind (·.dst) = some d₁) (hN : Nat.blt d₁ N = true) (ht : t d₁ = .bool b) (hb : b = !want)
    (hk : L P w0 N ops rest Q (upd t d undef) σ) : L P w0 N ops (⟨some d, op, ty, pos, af, some (j, want)⟩ :: rest) Q t σ := by
  intro a w hr hs
  unfold wpList
  rw [if_neg (by rw [wanted_of rfl hr hj hN ht]; subst hb; cases want <;> simp)]
  exact hk _ _ (hr.put d rfl) hs
end

/-! ### functions -/
/-- what a call gives, up to NaNs -/
def Fn (P : Program) (w0 : World) (f : FuncId) (args : List Value) (σ : Sg) (K : Value → Sg → Prop) : Prop :=
  ∀ (args' : Array Value) w, args'.toList.map norm = args.map norm → Sat w0 σ w → Calls P f args' w fun e w' => ∃ u v σ', e = .returned u ∧ norm u = norm v ∧ Sat w0 σ' w' ∧ K v σ'
/-- .. and nothing tracked has turned -/
def FnV (P : Program) (w0 : World) (f : FuncId) (args : List Value) (σ : Sg) (v : Value) : Prop := Fn P w0 f args σ fun u σ' => u = v ∧ σ' = σ
theorem Fn.mono {f : FuncId} {args : List Value} {σ : Sg} {K K' : Value → Sg → Prop} (h : Fn P w0 f args σ K) (hk : ∀ v σ, K v σ → K' v σ) : Fn P w0 f args σ K' :=
  fun a w h1 h2 => (h a w h1 h2).mono fun e w ⟨u, v, σ', k1, k2, k3, k4⟩ => ⟨u, v, σ', k1, k2, k3, hk _ _ k4⟩

theorem op_call {f : FuncId} {xs : Array Operand} {tys : Array TypeId} {ty : TypeId} {t : Fr} {σ : Sg} {K : Value → Sg → Prop} (args : List Value)
    (hc : ∀ (args : Array Value) (w : World), (callFunc f args).run P w = .ok (.enter f args) w) (hx : xs.toList.map (ev N t) = args) (h : Fn P w0 f args σ K) :
    OpE P w0 N (.call ⟨.value (.func f), xs, tys⟩) ty t σ K := by
  intro a w hr hs
  have hrun : (execOp a.eval ⟨none, .call ⟨.value (.func f), xs, tys⟩, ty, "", #[], none⟩).run P w = .ok (.enter f (xs.map a.eval)) w := by
    simp [execOp, resolve, Act.eval, Deferred.ofValue, invoke, hc]
  rw [hrun]
  refine h _ _ ?_ hs
  rw [← hx]
  simp only [Array.toList_map, List.map_map]
  exact List.map_congr_left fun x _ => hr.eval x

def initF (args : List Value) : Fr := fun n => args.getD n undef
/-- at the body's end: what the results come to -/
def RetK (P : Program) (fn : Func) (w0 : World) (N : Nat) (K : Value → Sg → Prop) (t : Fr) (σ : Sg) : Prop :=
  ∀ a w, Rel N t a → Sat w0 σ w → ∃ u v σ', (results fn a.tmps).run P w = .ok u w ∧ norm u = norm v ∧ Ext σ' σ ∧ K v σ'
def bodyE (P : Program) (fn : Func) (w0 : World) (N : Nat) (K : Value → Sg → Prop) : Exit → Fr → Sg → Prop
  | .normal, t, σ | .ret, t, σ => RetK P fn w0 N K t σ
  | _, _, _ => False
def notTup : Value → Bool
  | .tuple _ => false
  | _ => true
theorem norm_nt {v : Value} (h : notTup v = true) : norm v = n1 v := by cases v <;> first | rfl | cases h
theorem nt_of_norm {u v : Value} (h : norm u = norm v) (hv : notTup v = true) : notTup u = true := by
  cases u <;> first | rfl | skip
  cases v <;> first | (simp [norm, n1, n0] at h; done) | (exact absurd hv (by simp [notTup]))
theorem n1_of_norm {u v : Value} (h : norm u = norm v) (hv : notTup v = true) : n1 u = n1 v := by
  rw [← norm_nt (nt_of_norm h hv), ← norm_nt hv, h]
theorem RetK.one {fn : Func} {K : Value → Sg → Prop} {t : Fr} {σ : Sg} {r : Nat} (σ' : Sg) (v : Value) (hf : fn.results = #[.tmp r]) (hv : ev N t (.tmp r) = v) (hx : Ext σ' σ) (hk : K v σ') : RetK P fn w0 N K t σ := by
  intro a w hr hs
  refine ⟨_, v, σ', results_tmp hf a.tmps P w, ?_, hx, hk⟩
  have := hr.eval (.tmp r)
  rw [hv] at this
  exact this
theorem RetK.two {fn : Func} {K : Value → Sg → Prop} {t : Fr} {σ : Sg} {r q : Nat} (σ' : Sg) (v u : Value) (hf : fn.results = #[.tmp r, .tmp q]) (hv : ev N t (.tmp r) = v) (hu : ev N t (.tmp q) = u)
    (nv : notTup v = true) (nu : notTup u = true) (hx : Ext σ' σ) (hk : K (.tuple #[v, u]) σ') : RetK P fn w0 N K t σ := by
  intro a w hr hs
  refine ⟨_, _, σ', results_tmp2 hf a.tmps P w, ?_, hx, hk⟩
  have h1 := hr.eval (.tmp r)
  have h2 := hr.eval (.tmp q)
  rw [hv] at h1
  rw [hu] at h2
  rw [norm_tuple, norm_tuple]
  simp only [List.map_toArray, List.map_cons, List.map_nil]
  rw [show n1 (a.tmps.getD r undef) = n1 v from n1_of_norm h1 nv, show n1 (a.tmps.getD q undef) = n1 u from n1_of_norm h2 nu]
theorem Fn.of_W {f : FuncId} {fn : Func} {c : Code} {args : List Value} {σ : Sg} {K : Value → Sg → Prop} (N : Nat) (hf : P.funcs[f]? = some fn) (hb : fn.body = some c) (hN : fn.ntmps = N) (hl : Nat.ble args.length N = true)
    (h : W P w0 N c (bodyE P fn w0 N K) (initF args) σ) : Fn P w0 f args σ K := by
  intro args' w ha hs
  have hlen : args'.size = args.length := by
    have := congrArg List.length ha
    simpa using this
  have hle : args.length ≤ N := Nat.le_of_ble_eq_true hl
  refine calls_of_wp hf hb (wp_mono (h _ w ⟨rfl, by simp [hlen, hN]; omega, fun n hn => ?_⟩ hs) fun e a w ⟨t, σ', h1, h2, h3⟩ => ?_)
  · show norm ((args' ++ Array.replicate (fn.ntmps - args'.size) undef).getD n undef) = norm (args.getD n undef)
    by_cases hna : n < args'.size
    · have e1 : (args' ++ Array.replicate (fn.ntmps - args'.size) undef).getD n undef = args'[n] := by
        simp [Array.getElem?_append, hna]
      have e2 : args.getD n undef = args[n]'(by omega) := by simp [List.getD, show n < args.length by omega]
      rw [e1, e2]
      have := congrArg (fun l => l[n]?) ha
      simp only [List.getElem?_map] at this
      rw [List.getElem?_eq_getElem (by simpa using hna), List.getElem?_eq_getElem (by omega)] at this
      simpa using this
    · have e1 : (args' ++ Array.replicate (fn.ntmps - args'.size) undef).getD n undef = undef := by
        simp [Array.getElem?_append, hna, Array.getElem?_replicate]
        split <;> rfl
      have e2 : args.getD n undef = undef := by simp [List.getD, show ¬ n < args.length by omega]
      rw [e1, e2]
  · cases e with
    | normal => obtain ⟨u, v, σ'', k1, k2, k3, k4⟩ := h3 a w h1 h2; exact ⟨h1.defers, u, k1, u, v, σ'', rfl, k2, h2.weaken k3, k4⟩
    | ret => obtain ⟨u, v, σ'', k1, k2, k3, k4⟩ := h3 a w h1 h2; exact ⟨h1.defers, u, k1, u, v, σ'', rfl, k2, h2.weaken k3, k4⟩
    | _ => exact h3.elim
end
end Go.Proofs.Ytnonlibekcacgaa.En
