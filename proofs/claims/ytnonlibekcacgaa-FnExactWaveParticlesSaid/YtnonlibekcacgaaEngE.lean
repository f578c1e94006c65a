/-
  The engine: a region that draws its order, walked once in the order of the text.
-/
import Derived.Test.YtnonlibekcacgaaEngD
import Derived.Still
namespace Go.Proofs.Ytnonlibekcacgaa.En
open Go
set_option linter.unusedVariables false
section
variable {P : Program} {w0 : World} {N : Nat} {ops : Array Oper}

def updO (t : Fr) : Option Nat → Value → Fr
  | some d, v => upd t d v
  | none, _ => t
theorem Rel.putO {t : Fr} {a : Act} (h : Rel N t a) (d : Option Nat) {u v : Value} (hv : norm u = norm v) : Rel N (updO t d v) (a.put d u) := by
  cases d with
  | none => exact h
  | some d => exact h.put d hv
theorem updO_comm (t : Fr) {x y : Option Tmp} (v u : Value) (h : ∀ d, x = some d → y ≠ some d) : updO (updO t x v) y u = updO (updO t y u) x v := by
  cases x with
  | none => rfl
  | some d =>
    cases y with
    | none => rfl
    | some e =>
      have hne : e ≠ d := fun hh => h d rfl (by rw [hh])
      funext n
      simp only [updO]
      by_cases h1 : n = e
      · subst h1; rw [upd_eq, upd_ne hne, upd_eq]
      · by_cases h2 : n = d
        · subst h2; rw [upd_ne h1, upd_eq, upd_eq]
        · rw [upd_ne h1, upd_ne h2, upd_ne h2, upd_ne h1]

/-- the guard, read off the frame -/
def wantE (N : Nat) (ops : Array Oper) (o : Oper) (t : Fr) : Option Bool :=
  match o.guard with
  | none => some true
  | some (j, want) =>
    match (ops[j]?).bind (·.dst) with
    | none => none
    | some d => bif Nat.blt d N then (match t d with | .bool b => some (b == want) | _ => none) else none
theorem wantE_spec {o : Oper} {t : Fr} {a : Act} {b : Bool} (hr : Rel N t a) (h : wantE N ops o t = some b) : Region.wanted o (yielded ops a.tmps) = b := by
  unfold wantE at h
  cases hg : o.guard with
  | none => rw [hg] at h; simp at h; subst h; simp [Region.wanted, hg]
  | some p =>
    obtain ⟨j, want⟩ := p
    rw [hg] at h
    simp only at h
    cases hj : (ops[j]?).bind (·.dst) with
    | none => rw [hj] at h; simp at h
    | some d =>
      rw [hj] at h
      simp only at h
      cases hN : Nat.blt d N with
      | false => rw [hN] at h; simp at h
      | true =>
        rw [hN] at h
        simp only [cond_true] at h
        cases ht : t d <;> rw [ht] at h <;> simp at h
        rename_i c
        rw [wanted_of hg hr hj hN ht]
        exact h
theorem wantE_upd {o : Oper} {t : Fr} {dst : Option Tmp} {v : Value} (h : ∀ d, dst = some d → d ∉ o.looksAt ops) : wantE N ops o (updO t dst v) = wantE N ops o t := by
  cases dst with
  | none => rfl
  | some d =>
    unfold wantE
    cases hg : o.guard with
    | none => rfl
    | some p =>
      obtain ⟨j, want⟩ := p
      simp only
      cases hj : (ops[j]?).bind (·.dst) with
      | none => rfl
      | some e =>
        have hne : e ≠ d := by
          intro hh
          refine h d rfl ?_
          unfold Oper.looksAt
          rw [hg]
          simp only [hj, hh, Option.toList_some]
          exact List.mem_append_right _ (List.mem_singleton.2 rfl)
        simp only [updO, upd_ne hne]

theorem OpE.put {o : Oper} {t : Fr} {σ : Sg} {K : Value → Sg → Prop} {dst : Option Tmp} {v : Value} (hs : ∀ cs b, o.op ≠ .select cs b) (h : ∀ d, dst = some d → d ∉ o.looksAt ops)
    (hh : OpE P w0 N o.op o.type (updO t dst v) σ K) : OpE P w0 N o.op o.type t σ K := by
  intro a w hr hsat
  have h1 := hh (a.put dst v) w (hr.putO dst rfl) hsat
  have e : execOp (a.put dst v).eval o = execOp a.eval o := execOp_put o hs a dst v h
  rw [execOp_eq, execOp_eq a.eval] at e
  rw [e] at h1
  exact h1
theorem OpE.put' {o : Oper} {t : Fr} {σ : Sg} {K : Value → Sg → Prop} {dst : Option Tmp} {v : Value} (hs : ∀ cs b, o.op ≠ .select cs b) (h : ∀ d, dst = some d → d ∉ o.looksAt ops)
    (hh : OpE P w0 N o.op o.type t σ K) : OpE P w0 N o.op o.type (updO t dst v) σ K := by
  intro a w hr hsat
  cases dst with
  | none => exact hh a w hr hsat
  | some d =>
    -- the frame with slot d as t has it
    have h1 := hh (a.put (some d) (t d)) w ⟨hr.defers, by simp [Act.put, hr.size], fun n hn => by
      have hs := hr.size
      by_cases hnd : n = d
      · subst hnd; simp [Act.put, show n < a.tmps.size by omega]
      · have := hr.slot n hn
        simp only [updO, upd_ne hnd] at this
        simp only [Act.put]
        rw [show (a.tmps.setIfInBounds d (t d)).getD n undef = a.tmps.getD n undef by simp [Array.getElem?_setIfInBounds_ne (Ne.symm hnd)]]
        exact this⟩ hsat
    have e : execOp (a.put (some d) (t d)).eval o = execOp a.eval o := execOp_put o hs a (some d) (t d) h
    rw [execOp_eq, execOp_eq a.eval] at e
    rw [e] at h1
    exact h1

def aOp (P : Program) (w0 : World) (N : Nat) (ops : Array Oper) (i : Nat) (K : Fr → Sg → Prop) (t : Fr) (σ : Sg) : Prop :=
  match ops[i]? with
  | none => K t σ
  | some o => match wantE N ops o t with
    | some true => OpE P w0 N o.op o.type t σ fun v σ' => K (updO t o.dst v) σ'
    | some false => K (updO t o.dst undef) σ
    | none => False
def wpAnyE (P : Program) (w0 : World) (N : Nat) (ops : Array Oper) (D : Sg → Prop) (K : Fr → Sg → Prop) : Nat → Array Bool → Fr → Sg → Prop
  | 0, listed, t, σ => D σ ∧ Region.ready .any ops listed = [] ∧ K t σ
  | fuel + 1, listed, t, σ =>
    D σ ∧ (Region.ready .any ops listed = [] → K t σ) ∧
    ∀ i ∈ Region.ready .any ops listed, aOp P w0 N ops i (wpAnyE P w0 N ops D K fuel (listed.setIfInBounds i true)) t σ
theorem wpAnyE.D {D : Sg → Prop} {K : Fr → Sg → Prop} {fuel : Nat} {listed : Array Bool} {t : Fr} {σ : Sg} (h : wpAnyE P w0 N ops D K fuel listed t σ) : D σ := by
  cases fuel <;> exact h.1
theorem aOp.mono {i : Nat} {K K' : Fr → Sg → Prop} {t : Fr} {σ : Sg} (h : aOp P w0 N ops i K t σ) (hk : ∀ t σ, K t σ → K' t σ) : aOp P w0 N ops i K' t σ := by
  unfold aOp at *
  cases hi : ops[i]? with
  | none => rw [hi] at h; exact hk _ _ h
  | some o =>
    rw [hi] at h
    simp only at h ⊢
    split
    · rename_i hw; rw [hw] at h; exact OpE.mono h fun v σ hh => hk _ _ hh
    · rename_i hw; rw [hw] at h; exact hk _ _ h
    · rename_i hw; rw [hw] at h; exact h.elim

theorem wpAny_of {D : Sg → Prop} {K : Fr → Sg → Prop} {Q : Exit → Fr → Sg → Prop} (hQ : ∀ t σ, K t σ → Q .normal t σ) : ∀ (fuel : Nat) (listed : Array Bool) (t : Fr) (σ : Sg) (a : Act) (w : World),
    wpAnyE P w0 N ops D K fuel listed t σ → Rel N t a → Sat w0 σ w → wpAny P .any ops (post N w0 Q) fuel listed a w
  | 0, _, t, σ, a, w, h, hr, hs => ⟨h.2.1, t, σ, hr, hs, hQ _ _ h.2.2⟩
  | fuel + 1, listed, t, σ, a, w, h, hr, hs => by
    refine ⟨fun h0 => ⟨t, σ, hr, hs, hQ _ _ (h.2.1 h0)⟩, fun i hi => ?_⟩
    have h1 := h.2.2 i hi
    unfold aOp at h1
    unfold wpOp
    cases ho : ops[i]? with
    | none => rw [ho] at h1; exact wpAny_of hQ fuel _ t σ a w h1 hr hs
    | some o =>
      rw [ho] at h1
      simp only at h1 ⊢
      cases hw : wantE N ops o t with
      | none => rw [hw] at h1; exact h1.elim
      | some b =>
        rw [hw] at h1
        rw [wantE_spec hr hw]
        cases b with
        | true =>
          simp only [if_true] at h1 ⊢
          refine .inl ?_
          unfold Oper.wp
          rw [execOp_eq]
          exact upon_of_res (h1 a w hr hs) fun u v σ' w' k1 k2 k3 => wpAny_of hQ fuel _ _ σ' _ w' k3 (hr.putO _ k1) k2
        | false =>
          simp only [Bool.false_eq_true, if_false] at h1 ⊢
          exact wpAny_of hQ fuel _ _ σ _ w h1 (hr.putO _ rfl) hs

/-- in this frame, wherever D holds, the operation gives this one value and turns nothing tracked; or its guard says no -/
def YldE (P : Program) (w0 : World) (N : Nat) (ops : Array Oper) (D : Sg → Prop) (o : Oper) (v : Value) (t : Fr) : Prop :=
  (wantE N ops o t = some true ∧ ∀ σ, D σ → OpV P w0 N o.op o.type t σ v) ∨ (wantE N ops o t = some false ∧ v = undef)
theorem YldE.aOp {D : Sg → Prop} {i : Nat} {o : Oper} {v : Value} {t : Fr} {σ : Sg} (hi : ops[i]? = some o) (hy : YldE P w0 N ops D o v t) (hD : D σ) {K : Fr → Sg → Prop} (h : K (updO t o.dst v) σ) : aOp P w0 N ops i K t σ := by
  unfold Go.Proofs.Ytnonlibekcacgaa.En.aOp
  rw [hi]
  simp only
  rcases hy with ⟨hw, hv⟩ | ⟨hw, rfl⟩
  · rw [hw]; exact (hv σ hD).mono fun u σ' ⟨h1, h2⟩ => by subst h1; subst h2; exact h
  · rw [hw]; exact h
theorem YldE.upd {D : Sg → Prop} {o : Oper} {v u : Value} {t : Fr} {dst : Option Tmp} (hs : ∀ cs b, o.op ≠ .select cs b) (h : ∀ d, dst = some d → d ∉ o.looksAt ops) (hy : YldE P w0 N ops D o v t) : YldE P w0 N ops D o v (updO t dst u) := by
  rcases hy with ⟨hw, hv⟩ | ⟨hw, rfl⟩
  · exact .inl ⟨by rw [wantE_upd h, hw], fun σ hD => OpE.put' hs h (hv σ hD)⟩
  · exact .inr ⟨by rw [wantE_upd h, hw], rfl⟩

theorem wpAnyE_first {D : Sg → Prop} {K : Fr → Sg → Prop} {i : Nat} {oi : Oper} {v : Value} (hi : ops[i]? = some oi) (hsel : ∀ (j : Nat) (o : Oper) cs b, ops[j]? = some o → o.op ≠ .select cs b) :
    ∀ (fuel : Nat) (listed : Array Bool) (t : Fr) (σ : Sg),
      (∀ j oj, ops[j]? = some oj → j ≠ i → listed.getD j true = false → (∀ e ∈ oj.after, Region.binds .any e = true → e.on ≠ i) → oi.apart ops oj = true) →
      i ∈ Region.ready .any ops listed → YldE P w0 N ops D oi v t →
      wpAnyE P w0 N ops D K fuel (listed.setIfInBounds i true) (updO t oi.dst v) σ → wpAnyE P w0 N ops D K (fuel + 1) listed t σ := by
  intro fuel
  induction fuel with
  | zero =>
    intro listed t σ _ hr hy H
    refine ⟨H.1, fun h => (by rw [h] at hr; cases hr), fun j hj => ?_⟩
    by_cases hji : j = i
    · subst hji; exact hy.aOp hi H.1 H
    · have := ready_mono hj hji
      rw [H.2.1] at this
      cases this
  | succ fuel ih =>
    intro listed t σ hfree hr hy H
    refine ⟨H.1, fun h => (by rw [h] at hr; cases hr), fun j hj => ?_⟩
    by_cases hji : j = i
    · subst hji; exact hy.aOp hi H.1 H
    · have h1 := H.2.2 j (ready_mono hj hji)
      obtain ⟨hjun, oj, hoj, hall⟩ := mem_ready.1 hj
      have hnot : ∀ e ∈ oj.after, Region.binds .any e = true → e.on ≠ i := fun e he hb heq => by
        have h1 := hall e he hb
        have h0 := (mem_ready.1 hr).1
        rw [heq] at h1
        rcases Nat.lt_or_ge i listed.size with h' | h'
        · simp [h'] at h0 h1; rw [h0] at h1; cases h1
        · simp [Array.getElem?_eq_none h'] at h1
      obtain ⟨a1, a2, a3⟩ := Oper.apart_spec (hfree j oj hoj hji hjun hnot)
      have si := fun cs b => hsel i oi cs b hi
      have sj := fun cs b => hsel j oj cs b hoj
      have hfree' : ∀ k ok, ops[k]? = some ok → k ≠ i → (listed.setIfInBounds j true).getD k true = false →
          (∀ e ∈ ok.after, Region.binds .any e = true → e.on ≠ i) → oi.apart ops ok = true := fun k ok hk hki hun hno => by
        refine hfree k ok hk hki ?_ hno
        by_cases hjk : j = k
        · subst hjk; exact hjun
        · rw [getD_set_ne true hjk] at hun; exact hun
      have step : ∀ u σ', wpAnyE P w0 N ops D K fuel ((listed.setIfInBounds i true).setIfInBounds j true) (updO (updO t oi.dst v) oj.dst u) σ' → wpAnyE P w0 N ops D K (fuel + 1) (listed.setIfInBounds j true) (updO t oj.dst u) σ' := fun u σ' hh => by
        refine ih (listed.setIfInBounds j true) (updO t oj.dst u) σ' hfree' (ready_mono hr (Ne.symm hji)) (hy.upd si a3) ?_
        rw [Array.setIfInBounds_comm _ _ hji, ← updO_comm t v u a2]
        exact hh
      unfold aOp at h1 ⊢
      rw [hoj] at h1 ⊢
      simp only at h1 ⊢
      rw [wantE_upd a1] at h1
      cases hw : wantE N ops oj t with
      | none => rw [hw] at h1; exact h1.elim
      | some b =>
        rw [hw] at h1
        cases b with
        | true => exact OpE.mono (OpE.put sj a1 h1) fun u σ' hh => step u σ' hh
        | false => exact step _ σ h1

/-- the order of the text serves: an operation marked 'true' may be taken first, one marked 'false' comes alone -/
def lexM (ops : Array Oper) : List Bool → Nat → Array Bool → Bool
  | [], _, listed => (Region.ready .any ops listed).isEmpty
  | true :: m, k, listed => (Region.ready .any ops listed).contains k && Region.free .any ops listed k && lexM ops m (k + 1) (listed.setIfInBounds k true)
  | false :: m, k, listed => Region.ready .any ops listed == [k] && lexM ops m (k + 1) (listed.setIfInBounds k true)
def lexOk (ops : Array Oper) (m : List Bool) : Bool := m.length == ops.size && Region.noSelect ops && lexM ops m 0 (Array.replicate ops.size false)
/-- the walk in the order of the text -/
def DL (P : Program) (w0 : World) (N : Nat) (ops : Array Oper) (D : Sg → Prop) (K : Fr → Sg → Prop) : List Oper → List Bool → Fr → Sg → Prop
  | [], _, t, σ => D σ ∧ K t σ
  | o :: rest, true :: ms, t, σ => ∃ v, YldE P w0 N ops D o v t ∧ DL P w0 N ops D K rest ms (updO t o.dst v) σ
  | o :: rest, false :: ms, t, σ => D σ ∧ wantE N ops o t = some true ∧ OpE P w0 N o.op o.type t σ fun v σ' => DL P w0 N ops D K rest ms (updO t o.dst v) σ'
  | _ :: _, [], _, _ => False
theorem wpAnyE_of_DL {D : Sg → Prop} {K : Fr → Sg → Prop} (hs : Region.noSelect ops = true) : ∀ (l : List Oper) (ms : List Bool) (k : Nat) (listed : Array Bool) (t : Fr) (σ : Sg), (∀ j, l[j]? = ops[k + j]?) → ms.length = l.length →
    lexM ops ms k listed = true → DL P w0 N ops D K l ms t σ → wpAnyE P w0 N ops D K l.length listed t σ
  | [], [], k, listed, t, σ, _, _, hB, h => ⟨h.1, by simpa [lexM] using hB, h.2⟩
  | [], m :: ms, _, _, _, _, _, hl, _, _ => by simp at hl
  | o :: l, [], _, _, _, _, _, hl, _, _ => by simp at hl
  | o :: l, true :: ms, k, listed, t, σ, hl, hm, hB, h => by
    have h0 : ops[k]? = some o := by simpa using (hl 0).symm
    simp only [lexM, Bool.and_eq_true] at hB
    obtain ⟨⟨hr, hf⟩, hB'⟩ := hB
    obtain ⟨v, hy, hK⟩ := h
    exact wpAnyE_first h0 (Region.noSelect_spec hs) l.length listed t σ (Region.free_spec h0 hf) (by simpa using hr) hy
      (wpAnyE_of_DL hs l ms (k + 1) _ _ σ (fun j => by have := hl (j + 1); simpa [Nat.add_assoc, Nat.add_comm 1 j] using this) (by simpa using hm) hB' hK)
  | o :: l, false :: ms, k, listed, t, σ, hl, hm, hB, h => by
    have h0 : ops[k]? = some o := by simpa using (hl 0).symm
    simp only [lexM, Bool.and_eq_true, beq_iff_eq] at hB
    obtain ⟨hr, hB'⟩ := hB
    obtain ⟨hD, hw, hK⟩ := h
    show wpAnyE P w0 N ops D K (l.length + 1) listed t σ
    refine ⟨hD, ⟨fun hh => (by rw [hr] at hh; cases hh), fun i hi => ?_⟩⟩
    rw [hr] at hi
    have : i = k := by simpa using hi
    subst this
    unfold aOp
    rw [h0]
    simp only [hw]
    exact hK.mono fun v σ' hh => wpAnyE_of_DL hs l ms (i + 1) _ _ σ' (fun j => by have := hl (j + 1); simpa [Nat.add_assoc, Nat.add_comm 1 j] using this) (by simpa using hm) hB' hh

theorem W.draw {Q : Exit → Fr → Sg → Prop} {t : Fr} {σ : Sg} {id : Nat} {l : List Oper} (ms : List Bool) (D : Sg → Prop) (hm : P.follows .mixedOrders = true) (hB : lexOk l.toArray ms = true)
    (h : DL P w0 N l.toArray D (fun t σ => Q .normal t σ) l ms t σ) : W P w0 N (.region id l.toArray true) Q t σ := by
  intro a w hr hs
  simp only [lexOk, Bool.and_eq_true, beq_iff_eq] at hB
  obtain ⟨⟨hl, hsel⟩, hB⟩ := hB
  have := wpAnyE_of_DL hsel l ms 0 (Array.replicate l.toArray.size false) t σ (by simp) (by simpa using hl) hB h
  exact wp_region_any hm (wpAny_of (fun _ _ h => h) _ _ _ _ a _ (by simpa using this) hr (hs.drawn _))

section
variable {D : Sg → Prop} {K : Fr → Sg → Prop} {t : Fr} {σ : Sg} {rest : List Oper} {ms : List Bool} {op : Op} {ty : TypeId} {pos : String} {af : Array Edge}
theorem DL.nil (hD : D σ) (h : K t σ) : DL P w0 N ops D K [] ms t σ := ⟨hD, h⟩
theorem DL.v {d : Nat} {v : Value} (h : ∀ σ', D σ' → OpV P w0 N op ty t σ' v) (hk : DL P w0 N ops D K rest ms (upd t d v) σ) : DL P w0 N ops D K (⟨some d, op, ty, pos, af, none⟩ :: rest) (true :: ms) t σ :=
  ⟨v, .inl ⟨rfl, h⟩, hk⟩
theorem wantE_of {o : Oper} {j d : Nat} {b want : Bool} (hg : o.guard = some (j, want)) (hj : (ops[j]?).bind (·.dst) = some d) (hN : Nat.blt d N = true) (ht : t d = .bool b) : wantE N ops o t = some (b == want) := by
  unfold wantE; rw [hg]; simp only; rw [hj]; simp only; rw [hN, ht]; rfl
theorem DL.gv {j d₁ d : Nat} {want b : Bool} {v : Value} (hj : (ops[j]?).bind (·.dst) = some d₁) (hN : Nat.blt d₁ N = true) (ht : t d₁ = .bool b) (hb : b = want)
    (h : ∀ σ', D σ' → OpV P w0 N op ty t σ' v) (hk : DL P w0 N ops D K rest ms (upd t d v) σ) : DL P w0 N ops D K (⟨some d, op, ty, pos, af, some (j, want)⟩ :: rest) (true :: ms) t σ :=
  ⟨v, .inl ⟨by rw [wantE_of rfl hj hN ht]; simp [hb], h⟩, hk⟩
theorem DL.gF {j d₁ d : Nat} {want b : Bool} (hj : (ops[j]?).bind (·.dst) = some d₁) (hN : Nat.blt d₁ N = true) (ht : t d₁ = .bool b) (hb : b = !want)
    (hk : DL P w0 N ops D K rest ms (upd t d undef) σ) : DL P w0 N ops D K (⟨some d, op, ty, pos, af, some (j, want)⟩ :: rest) (true :: ms) t σ :=
  ⟨undef, .inr ⟨by rw [wantE_of rfl hj hN ht]; subst hb; cases want <;> rfl, rfl⟩, hk⟩
theorem DL.e {d : Nat} {E : Value → Sg → Prop} (hD : D σ) (h : OpE P w0 N op ty t σ E) (hk : ∀ v σ', E v σ' → DL P w0 N ops D K rest ms (upd t d v) σ') : DL P w0 N ops D K (⟨some d, op, ty, pos, af, none⟩ :: rest) (false :: ms) t σ :=
  ⟨hD, rfl, h.mono fun v σ' hh => hk v σ' hh⟩
theorem DL.e0 {E : Value → Sg → Prop} (hD : D σ) (h : OpE P w0 N op ty t σ E) (hk : ∀ v σ', E v σ' → DL P w0 N ops D K rest ms t σ') : DL P w0 N ops D K (⟨none, op, ty, pos, af, none⟩ :: rest) (false :: ms) t σ :=
  ⟨hD, rfl, h.mono fun v σ' hh => hk v σ' hh⟩
/-- a call that turns nothing tracked, inside a draw -/
theorem DL.call {d f : Nat} {xs : Array Operand} {tys : Array TypeId} {v : Value} (args : List Value) (hc : ∀ (args : Array Value) (w : World), (callFunc f args).run P w = .ok (.enter f args) w) (hx : xs.toList.map (ev N t) = args)
    (h : ∀ σ', D σ' → FnV P w0 f args σ' v) (hk : DL P w0 N ops D K rest ms (upd t d v) σ) : DL P w0 N ops D K (⟨some d, .call ⟨.value (.func f), xs, tys⟩, ty, pos, af, none⟩ :: rest) (true :: ms) t σ :=
  DL.v (fun σ' hD => op_call args hc hx (h σ' hD)) hk
end
end
end Go.Proofs.Ytnonlibekcacgaa.En
