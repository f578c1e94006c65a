/-
  The engine: a region that draws its order, reads and then does one thing more, behind all else (a store).
-/
import Derived.Test.YtnonlibekcacgaaEngJ
namespace Go.Proofs.Ytnonlibekcacgaa.En
open Go
set_option linter.unusedVariables false
section
variable {P : Program} {w0 : World} {N : Nat} {ops : Array Oper}

/-- all but the operation 'last' are still to come up, 'fuel' of them -/
def wpAnyL (P : Program) (w0 : World) (N : Nat) (ops : Array Oper) (last : Nat) (D : Sg → Prop) (K : Fr → Sg → Prop) : Nat → Array Bool → Fr → Sg → Prop
  | 0, listed, t, σ => D σ ∧ Region.ready .any ops listed = [last] ∧ Region.ready .any ops (listed.setIfInBounds last true) = [] ∧ aOp P w0 N ops last K t σ
  | fuel + 1, listed, t, σ => D σ ∧ Region.ready .any ops listed ≠ [] ∧ ∀ i ∈ Region.ready .any ops listed, aOp P w0 N ops i (wpAnyL P w0 N ops last D K fuel (listed.setIfInBounds i true)) t σ

theorem wpOp_of_aOp {i : Nat} {t : Fr} {σ : Sg} {a : Act} {w : World} {K : Fr → Sg → Prop} {R : Act → World → Prop} {Q' : Exit → Act → World → Prop} (h : aOp P w0 N ops i K t σ) (hr : Rel N t a) (hs : Sat w0 σ w)
    (hk : ∀ t σ a w, K t σ → Rel N t a → Sat w0 σ w → R a w) : wpOp P ops Q' i R a w := by
  unfold aOp at h
  unfold wpOp
  cases ho : ops[i]? with
  | none => rw [ho] at h; exact hk _ _ _ _ h hr hs
  | some o =>
    rw [ho] at h
    simp only at h ⊢
    cases hw : wantE N ops o t with
    | none => rw [hw] at h; exact h.elim
    | some b =>
      rw [hw] at h
      rw [wantE_spec hr hw]
      cases b with
      | true =>
        simp only [if_true] at h ⊢
        refine .inl ?_
        unfold Oper.wp
        rw [execOp_eq]
        exact upon_of_res (h a w hr hs) fun u v σ' w' k1 k2 k3 => hk _ _ _ _ k3 (hr.putO _ k1) k2
      | false =>
        simp only [Bool.false_eq_true, if_false] at h ⊢
        exact hk _ _ _ _ h (hr.putO _ rfl) hs
theorem wpAny_ofL {last : Nat} {D : Sg → Prop} {Q : Exit → Fr → Sg → Prop} : ∀ (fuel : Nat) (listed : Array Bool) (t : Fr) (σ : Sg) (a : Act) (w : World),
    wpAnyL P w0 N ops last D (fun t σ => Q .normal t σ) fuel listed t σ → Rel N t a → Sat w0 σ w → wpAny P .any ops (post N w0 Q) (fuel + 1) listed a w
  | 0, listed, t, σ, a, w, h, hr, hs => by
    obtain ⟨_, h1, h2, h3⟩ := h
    refine ⟨fun h0 => (by rw [h1] at h0; cases h0), fun i hi => ?_⟩
    rw [h1] at hi
    have : i = last := by simpa using hi
    subst this
    exact wpOp_of_aOp h3 hr hs fun t σ a w hk hr hs => ⟨h2, t, σ, hr, hs, hk⟩
  | fuel + 1, listed, t, σ, a, w, h, hr, hs =>
    ⟨fun h0 => absurd h0 h.2.1, fun i hi => wpOp_of_aOp (h.2.2 i hi) hr hs fun t σ a w hk hr hs => wpAny_ofL fuel _ t σ a w hk hr hs⟩

theorem wpAnyL_first {last : Nat} {D : Sg → Prop} {K : Fr → Sg → Prop} {i : Nat} {oi : Oper} {v : Value} (hi : ops[i]? = some oi) (hsel : ∀ (j : Nat) (o : Oper) cs b, ops[j]? = some o → o.op ≠ .select cs b)
    (hw : ∀ ol, ops[last]? = some ol → ∃ e ∈ ol.after, Region.binds .any e = true ∧ e.on = i) :
    ∀ (fuel : Nat) (listed : Array Bool) (t : Fr) (σ : Sg),
      (∀ j oj, ops[j]? = some oj → j ≠ i → listed.getD j true = false → (∀ e ∈ oj.after, Region.binds .any e = true → e.on ≠ i) → oi.apart ops oj = true) →
      i ∈ Region.ready .any ops listed → YldE P w0 N ops D oi v t →
      wpAnyL P w0 N ops last D K fuel (listed.setIfInBounds i true) (updO t oi.dst v) σ → wpAnyL P w0 N ops last D K (fuel + 1) listed t σ := by
  have nowait : ∀ (listed : Array Bool), i ∈ Region.ready .any ops listed → ∀ oj e, ops[last]? = some oj → e ∈ oj.after → Region.binds .any e = true → e.on = i → last ∉ Region.ready .any ops listed := by
    intro listed hr oj e ho he hb hei hl
    obtain ⟨_, oj', hoj', hall⟩ := mem_ready.1 hl
    rw [ho] at hoj'
    cases hoj'
    have h1 := hall e he hb
    have h0 := (mem_ready.1 hr).1
    rw [hei] at h1
    rcases Nat.lt_or_ge i listed.size with h' | h'
    · simp [h'] at h0 h1; rw [h0] at h1; cases h1
    · simp [Array.getElem?_eq_none h'] at h1
  intro fuel
  induction fuel with
  | zero =>
    intro listed t σ _ hr hy H
    refine ⟨H.1, fun h => (by rw [h] at hr; cases hr), fun j hj => ?_⟩
    by_cases hji : j = i
    · subst hji; exact hy.aOp hi H.1 H
    · have h1 := ready_mono hj hji
      rw [H.2.1] at h1
      have : j = last := by simpa using h1
      subst this
      obtain ⟨_, oj, hoj, _⟩ := mem_ready.1 hj
      obtain ⟨e, he, hb, hei⟩ := hw oj hoj
      exact absurd hj (nowait listed hr oj e hoj he hb hei)
  | succ fuel ih =>
    intro listed t σ hfree hr hy H
    refine ⟨H.1, fun h => (by rw [h] at hr; cases hr), fun j hj => ?_⟩
    by_cases hji : j = i
    · subst hji; exact hy.aOp hi H.1 H
    · have h1 := H.2.2 j (ready_mono hj hji)
      obtain ⟨hjun, oj, hoj, hall⟩ := mem_ready.1 hj
      have hnot : ∀ e ∈ oj.after, Region.binds .any e = true → e.on ≠ i := fun e he hb heq => by
        have h1 := hall e he hb
        have h0 := (mem_ready.1 hr).1
        rw [heq] at h1
        rcases Nat.lt_or_ge i listed.size with h' | h'
        · simp [h'] at h0 h1; rw [h0] at h1; cases h1
        · simp [Array.getElem?_eq_none h'] at h1
      obtain ⟨a1, a2, a3⟩ := Oper.apart_spec (hfree j oj hoj hji hjun hnot)
      have si := fun cs b => hsel i oi cs b hi
      have sj := fun cs b => hsel j oj cs b hoj
      have hfree' : ∀ k ok, ops[k]? = some ok → k ≠ i → (listed.setIfInBounds j true).getD k true = false →
          (∀ e ∈ ok.after, Region.binds .any e = true → e.on ≠ i) → oi.apart ops ok = true := fun k ok hk hki hun hno => by
        refine hfree k ok hk hki ?_ hno
        by_cases hjk : j = k
        · subst hjk; exact hjun
        · rw [getD_set_ne true hjk] at hun; exact hun
      have step : ∀ u σ', wpAnyL P w0 N ops last D K fuel ((listed.setIfInBounds i true).setIfInBounds j true) (updO (updO t oi.dst v) oj.dst u) σ' → wpAnyL P w0 N ops last D K (fuel + 1) (listed.setIfInBounds j true) (updO t oj.dst u) σ' := fun u σ' hh => by
        refine ih (listed.setIfInBounds j true) (updO t oj.dst u) σ' hfree' (ready_mono hr (Ne.symm hji)) (hy.upd si a3) ?_
        rw [Array.setIfInBounds_comm _ _ hji, ← updO_comm t v u a2]
        exact hh
      unfold aOp at h1 ⊢
      rw [hoj] at h1 ⊢
      simp only at h1 ⊢
      rw [wantE_upd a1] at h1
      cases hw : wantE N ops oj t with
      | none => rw [hw] at h1; exact h1.elim
      | some b =>
        rw [hw] at h1
        cases b with
        | true => exact OpE.mono (OpE.put sj a1 h1) fun u σ' hh => step u σ' hh
        | false => exact step _ σ h1

def lexQ (ops : Array Oper) : Nat → Nat → Array Bool → Bool
  | 0, k, listed => Region.ready .any ops listed == [k] && Region.ready .any ops (listed.setIfInBounds k true) == []
  | n + 1, k, listed => (Region.ready .any ops listed).contains k && Region.free .any ops listed k && lexQ ops n (k + 1) (listed.setIfInBounds k true)
def waitsAll (ops : Array Oper) (last : Nat) : Bool := match ops[last]? with
  | none => false
  | some o => (List.range last).all fun k => o.after.any fun e => Region.binds .any e && e.on == k
def lexLast (ops : Array Oper) (last : Nat) : Bool := last + 1 == ops.size && Region.noSelect ops && waitsAll ops last && lexQ ops last 0 (Array.replicate ops.size false)
/-- the walk: all operations but the last, quiet, in the order of the text; then the last -/
def QL (P : Program) (w0 : World) (N : Nat) (ops : Array Oper) (D : Sg → Prop) (K : Fr → Sg → Prop) : List Oper → Fr → Sg → Prop
  | [], _, _ => False
  | [o], t, σ => D σ ∧ wantE N ops o t = some true ∧ OpE P w0 N o.op o.type t σ fun v σ' => K (updO t o.dst v) σ'
  | o :: p :: rest, t, σ => ∃ v, YldE P w0 N ops D o v t ∧ QL P w0 N ops D K (p :: rest) (updO t o.dst v) σ
theorem wpAnyL_of_QL {last : Nat} {D : Sg → Prop} {K : Fr → Sg → Prop} (hs : Region.noSelect ops = true) (hw : waitsAll ops last = true) : ∀ (l : List Oper) (n k : Nat) (listed : Array Bool) (t : Fr) (σ : Sg), (∀ j, l[j]? = ops[k + j]?) → l.length = n + 1 → k + n = last →
    lexQ ops n k listed = true → QL P w0 N ops D K l t σ → wpAnyL P w0 N ops last D K n listed t σ
  | [], _, _, _, _, _, _, hl, _, _, _ => by simp at hl
  | [o], n, k, listed, t, σ, hl, hn, hk, hB, h => by
    have hn0 : n = 0 := by simpa using hn
    subst hn0
    simp only [lexQ, Bool.and_eq_true, beq_iff_eq] at hB
    have hkl : k = last := by omega
    subst hkl
    have h0 : ops[k]? = some o := by simpa using (hl 0).symm
    refine ⟨h.1, hB.1, hB.2, ?_⟩
    unfold aOp
    rw [h0]
    simp only [h.2.1]
    exact h.2.2
  | o :: p :: rest, n, k, listed, t, σ, hl, hn, hk, hB, h => by
    obtain ⟨m, rfl⟩ : ∃ m, n = m + 1 := ⟨n - 1, by simp at hn; omega⟩
    have h0 : ops[k]? = some o := by simpa using (hl 0).symm
    simp only [lexQ, Bool.and_eq_true] at hB
    obtain ⟨⟨hr, hf⟩, hB'⟩ := hB
    obtain ⟨v, hy, hK⟩ := h
    refine wpAnyL_first h0 (Region.noSelect_spec hs) (fun ol hol => ?_) m listed t σ (Region.free_spec h0 hf) (by simpa using hr) hy
      (wpAnyL_of_QL hs hw (p :: rest) m (k + 1) _ _ σ (fun j => by have := hl (j + 1); simpa [Nat.add_assoc, Nat.add_comm 1 j] using this) (by simpa using hn) (by omega) hB' hK)
    unfold waitsAll at hw
    rw [hol] at hw
    simp only [List.all_eq_true, List.mem_range] at hw
    have hk' := hw k (by omega)
    rw [Array.any_eq_true] at hk'
    obtain ⟨idx, hidx, he⟩ := hk'
    simp only [Bool.and_eq_true, beq_iff_eq] at he
    exact ⟨ol.after[idx], Array.getElem_mem hidx, he.1, he.2⟩
theorem W.drawLast {Q : Exit → Fr → Sg → Prop} {t : Fr} {σ : Sg} {id : Nat} {l : List Oper} (last : Nat) (D : Sg → Prop) (hm : P.follows .mixedOrders = true) (hB : lexLast l.toArray last = true)
    (h : QL P w0 N l.toArray D (fun t σ => Q .normal t σ) l t σ) : W P w0 N (.region id l.toArray true) Q t σ := by
  intro a w hr hs
  simp only [lexLast, Bool.and_eq_true, beq_iff_eq] at hB
  obtain ⟨⟨⟨hl, hsel⟩, hwt⟩, hB⟩ := hB
  have hl' : l.length = last + 1 := by simpa using hl.symm
  have := wpAnyL_of_QL hsel hwt l last 0 (Array.replicate l.toArray.size false) t σ (by simp) hl' (by omega) hB h
  refine wp_region_any hm ?_
  have h2 := wpAny_ofL last _ t σ a _ this hr (hs.drawn (w.drawn + 1))
  simpa [hl'] using h2
section
variable {D : Sg → Prop} {K : Fr → Sg → Prop} {t : Fr} {σ : Sg} {p : Oper} {rest : List Oper} {op : Op} {ty : TypeId} {pos : String} {af : Array Edge}
theorem QL.v {d : Nat} {v : Value} (h : ∀ σ', D σ' → OpV P w0 N op ty t σ' v) (hk : QL P w0 N ops D K (p :: rest) (upd t d v) σ) : QL P w0 N ops D K (⟨some d, op, ty, pos, af, none⟩ :: p :: rest) t σ :=
  ⟨v, .inl ⟨rfl, h⟩, hk⟩
theorem QL.gv {j d₁ d : Nat} {want b : Bool} {v : Value} (hj : (ops[j]?).bind (·.dst) = some d₁) (hN : Nat.blt d₁ N = true) (ht : t d₁ = .bool b) (hb : b = want)
    (h : ∀ σ', D σ' → OpV P w0 N op ty t σ' v) (hk : QL P w0 N ops D K (p :: rest) (upd t d v) σ) : QL P w0 N ops D K (⟨some d, op, ty, pos, af, some (j, want)⟩ :: p :: rest) t σ :=
  ⟨v, .inl ⟨by rw [wantE_of rfl hj hN ht]; simp [hb], h⟩, hk⟩
theorem QL.gF {j d₁ d : Nat} {want b : Bool} (hj : (ops[j]?).bind (·.dst) = some d₁) (hN : Nat.blt d₁ N = true) (ht : t d₁ = .bool b) (hb : b = !want)
    (hk : QL P w0 N ops D K (p :: rest) (upd t d undef) σ) : QL P w0 N ops D K (⟨some d, op, ty, pos, af, some (j, want)⟩ :: p :: rest) t σ :=
  ⟨undef, .inr ⟨by rw [wantE_of rfl hj hN ht]; subst hb; cases want <;> rfl, rfl⟩, hk⟩
theorem QL.last0 {E : Value → Sg → Prop} (hD : D σ) (h : OpE P w0 N op ty t σ E) (hk : ∀ v σ', E v σ' → K t σ') : QL P w0 N ops D K [⟨none, op, ty, pos, af, none⟩] t σ :=
  ⟨hD, rfl, h.mono fun v σ' hh => hk v σ' hh⟩
theorem QL.last {d : Nat} {E : Value → Sg → Prop} (hD : D σ) (h : OpE P w0 N op ty t σ E) (hk : ∀ v σ', E v σ' → K (upd t d v) σ') : QL P w0 N ops D K [⟨some d, op, ty, pos, af, none⟩] t σ :=
  ⟨hD, rfl, h.mono fun v σ' hh => hk v σ' hh⟩
end
end
end Go.Proofs.Ytnonlibekcacgaa.En
