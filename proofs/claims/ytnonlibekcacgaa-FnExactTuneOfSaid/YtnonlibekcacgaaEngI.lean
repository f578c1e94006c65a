/-
  The engine: frames at a loop's head; fresh slices; lists.
-/
import Derived.Test.YtnonlibekcacgaaEngH
namespace Go.Proofs.Ytnonlibekcacgaa.En
open Go
set_option linter.unusedVariables false

theorem bn_t {b : Bool} (h : (!b) = true) : b = false := by cases b <;> first | rfl | cases h
theorem bn_f {b : Bool} (h : (!b) = false) : b = true := by cases b <;> first | rfl | cases h
theorem nb_t {b : Bool} (h : b = true) : (!b) = false := by rw [h]; rfl
theorem nb_f {b : Bool} (h : b = false) : (!b) = true := by rw [h]; rfl
def FrOk (t : Fr) : List (Nat × Value) → Prop
  | [] => True
  | p :: l => t p.1 = p.2 ∧ FrOk t l
theorem frame_ok {t : Fr} : ∀ {l : List (Nat × Value)}, FrOk t l → l.foldl (fun s p => upd s p.1 p.2) t = t
  | [], _ => rfl
  | p :: l, h => by
    show l.foldl (fun s p => upd s p.1 p.2) (upd t p.1 p.2) = t
    rw [upd_self h.1]
    exact frame_ok h.2

theorem sg_sg (σ : Sg) (b : Nat) (x y) : sg (sg σ b x) b y = sg σ b y := by
  funext n
  by_cases h : n = b
  · subst h; rw [sg_eq, sg_eq]
  · rw [sg_ne h, sg_ne h, sg_ne h]
theorem sg_same {σ : Sg} {b : Nat} {x} (h : σ b = some x) : sg σ b x = σ := by
  funext n
  by_cases hn : n = b
  · subst hn; rw [sg_eq, h]
  · rw [sg_ne hn]

section
variable {P : Program} {w0 : World} {N : Nat} {σ : Sg}
/-- only what the arguments are up to NaNs counts -/
theorem Fn.args {f : FuncId} {as bs : List Value} {K : Value → Sg → Prop} (h : Fn P w0 f as σ K) (e : as.map norm = bs.map norm) : Fn P w0 f bs σ K :=
  fun a w h1 h2 => h a w (by rw [h1, e]) h2
theorem float_sim {k : FloatKind} {a b : Nat} (h : cn k a = cn k b) : norm (.float k a) = norm (.float k b) := by rw [norm_float, norm_float, h]

/-- all that was tracked but the block 'o' is as it was -/
def But (o : Option Nat) (σ σ' : Sg) : Prop := ∀ b x, σ b = some x → o ≠ some b → σ' b = some x
theorem But.of_ext {o : Option Nat} {σ σ' : Sg} (h : Ext σ σ') : But o σ σ' := fun b x hb _ => h b x hb
theorem But.sg {b : Nat} {x} : But (some b) σ (sg σ b x) := fun b' y hb' hne => by rw [sg_ne (fun e => hne (by rw [e]))]; exact hb'
theorem Sl.but {o : Option Nat} {σ' : Sg} {k : Nat} {p : Option Addr} {rows : List (List Value)} (h : Sl σ k p rows) (hb : But o σ σ') (hne : ∀ b off, p = some ⟨b, off, none⟩ → o ≠ some b) : Sl σ' k p rows := by
  rcases h with h | ⟨b, off, hp, h⟩
  · exact .inl h
  · exact .inr ⟨b, off, hp, fun i r hr j v hj => by
      obtain ⟨e, cs, hb', ho⟩ := h i r hr j v hj
      exact ⟨e, cs, hb _ _ hb' (hne b off hp), ho⟩⟩
/-- a slice in new memory: 'v' reads as these rows, and lies in a block that was not tracked before (or has no block) -/
structure Fsl (w0 : World) (σ : Sg) (k : Nat) (rows : List (List Value)) (p : Option Addr) (σ' : Sg) : Prop where
  reads : Sl σ' k p rows
  ext : Ext σ σ'
  own : p = none ∨ ∃ b e cs, p = some ⟨b, 0, none⟩ ∧ σ b = none ∧ w0.heap.size ≤ b ∧ σ' b = some (e, cs) ∧ rows.length * k ≤ cs.length
theorem Fsl.ne {k : Nat} {rows : List (List Value)} {p : Option Addr} {σ' : Sg} (h : Fsl w0 σ k rows p σ') {b : Nat} {x} (hb : σ b = some x) : ∀ b' off, p = some ⟨b', off, none⟩ → b' ≠ b := by
  intro b' off hp
  rcases h.own with h1 | ⟨c, e, cs, h1, h2, _⟩
  · rw [h1] at hp; cases hp
  · rw [h1] at hp
    cases hp
    intro e; subst e; rw [hb] at h2; cases h2
/-- .. given back by a function that returns it -/
def RetFS (w0 : World) (σ : Sg) (k : Nat) (rows : List (List Value)) (n : Nat) (mk : Value → Value) (u : Value) (σ' : Sg) : Prop := ∃ p c, u = mk (.slice p n c) ∧ Fsl w0 σ k rows p σ'
theorem Fsl.of_newB {k b : Nat} {e : TypeId} {rows : List (List Value)} (hf : σ b = none) (hw : w0.heap.size ≤ b) (hk : ∀ r ∈ rows, r.length = k) : Fsl w0 σ k rows (some ⟨b, 0, none⟩) (sg σ b (e, rows.flatten)) := by
  refine ⟨?_, (Ext.refl σ).sg hf, .inr ⟨b, e, rows.flatten, rfl, hf, hw, sg_eq _ _ _, ?_⟩⟩
  · have := Sl.of (σ := sg σ b (e, rows.flatten)) (k := k) (b := b) (e := e) (f := fun r => r) (xs := rows) (by rw [List.map_id', sg_eq]) hk
    rwa [List.map_id'] at this
  · have : ∀ (l : List (List Value)), (∀ r ∈ l, r.length = k) → l.length * k ≤ l.flatten.length := by
      intro l
      induction l with
      | nil => intro _; simp
      | cons r l ih =>
        intro h
        have h1 := h r (by simp)
        have h2 := ih fun x hx => h x (by simp [hx])
        simp only [List.length_cons, List.flatten_cons, List.length_append, h1, Nat.succ_mul]
        omega
    exact this rows hk
theorem Fsl.nil (k : Nat) : Fsl w0 σ k [] none σ := ⟨.inl rfl, Ext.refl σ, .inl rfl⟩
theorem Fsl.weaken {σ1 σ' : Sg} {k : Nat} {rows : List (List Value)} {p : Option Addr} (h : Fsl w0 σ1 k rows p σ') (hx : Ext σ σ1) : Fsl w0 σ k rows p σ' := by
  refine ⟨h.reads, hx.trans h.ext, ?_⟩
  rcases h.own with h1 | ⟨b, e, cs, h1, h2, h3⟩
  · exact .inl h1
  · refine .inr ⟨b, e, cs, h1, ?_, h3⟩
    cases hb : σ b with
    | none => rfl
    | some x => rw [hx _ _ hb] at h2; cases h2
/-- what an append loop ends with -/
theorem Fsl.of_own {σ' : Sg} {e : TypeId} {k : Nat} {v : Value} {n : Nat} {rows : List (List Value)} (h : Own w0 σ' e k v n rows.flatten) (hn : rows.length = n) (hk : ∀ r ∈ rows, r.length = k) (hx : Ext σ σ') (hf : ∀ b, v.ownBlock = some b → σ b = none) :
    ∃ p c, v = .slice p n c ∧ Fsl w0 σ k rows p σ' := by
  subst hn
  rcases h.2 with ⟨rfl, h0⟩ | ⟨g, cap, cur, rfl, hg, hgg, hnc, hcap, hcl, ht⟩
  · have : rows = [] := List.eq_nil_of_length_eq_zero h0
    subst this
    exact ⟨none, 0, rfl, .inl rfl, hx, .inl rfl⟩
  · refine ⟨_, cap, rfl, ⟨.inr ⟨g, 0, rfl, fun i r hr j u hj => ⟨e, cur, hgg, ?_⟩⟩, hx, .inr ⟨g, e, cur, rfl, hf g rfl, hg, hgg, by rw [hcl]; exact Nat.mul_le_mul_right _ hnc⟩⟩⟩
    have hs : Sl (sg σ' 0 (e, rows.flatten)) k (some ⟨0, 0, none⟩) (rows.map fun r => r) := Sl.of (by rw [List.map_id', sg_eq]) hk
    rw [List.map_id'] at hs
    rcases hs with h1 | ⟨b', off', hp, hrow⟩
    · rw [h1] at hr; simp at hr
    · cases hp
      obtain ⟨e', cs', hb', ho⟩ := hrow i r hr j u hj
      rw [sg_eq] at hb'
      cases hb'
      rw [← ht, List.getElem?_take] at ho
      split at ho
      · exact ho
      · cases ho
end

/-! ### rows of one float -/
def fl (x : Nat) : List Value := [Value.float .f32 x]
theorem flat_fl (xs : List Nat) : (xs.map fl).flatten = xs.map (Value.float .f32) := by
  induction xs with
  | nil => rfl
  | cons x xs ih => simp [fl] at ih ⊢; exact ih
theorem fcmp_eql_of {k : FloatKind} {a b : Nat} (h : fcmp .neq k a b = false) : fcmp .eql k a b = true := by
  simp only [fcmp, bne] at h ⊢
  simpa using h

/-! ### lists -/
section
variable {α β : Type}
theorem fill_step (f : α → β) (z : β) (xs : List α) (i : Nat) (h : i < xs.length) (d : α) :
    ((xs.take i).map f ++ List.replicate (xs.length - i) z).set i (f (xs.getD i d)) = (xs.take (i + 1)).map f ++ List.replicate (xs.length - (i + 1)) z := by
  have h1 : ((xs.take i).map f).length = i := by simp; omega
  obtain ⟨m, hm⟩ : ∃ m, xs.length - i = m + 1 := ⟨xs.length - i - 1, by omega⟩
  rw [hm, List.replicate_succ, List.set_append, if_neg (by omega)]
  simp only [h1, Nat.sub_self, List.set_cons_zero]
  rw [List.take_succ_eq_append_getElem h, List.map_append, List.append_assoc]
  have : xs.length - (i + 1) = m := by omega
  simp [this, h]
end
end Go.Proofs.Ytnonlibekcacgaa.En
