/- Engine, part U: a region that draws its order, in two stretches: reads and one store, and what waits for this store. -/
import Derived.Test.YtpgmpjejfpmnoaaEngT
namespace Go.Proofs.Ytpgmpjejfpmnoaa.En
open Go
set_option linter.unusedVariables false
section
variable {P : Program} {w0 : World} {N : Nat} {ops : Array Oper}
def wpAnyS (P : Program) (w0 : World) (N : Nat) (ops : Array Oper) (last : Nat) (D : Sg → Prop) (K : Array Bool → Fr → Sg → Prop) : Nat → Array Bool → Fr → Sg → Prop
  | 0, listed, t, σ => D σ ∧ Region.ready .any ops listed = [last] ∧ aOp P w0 N ops last (K (listed.setIfInBounds last true)) t σ
  | fuel + 1, listed, t, σ => D σ ∧ Region.ready .any ops listed ≠ [] ∧ ∀ i ∈ Region.ready .any ops listed, aOp P w0 N ops i (wpAnyS P w0 N ops last D K fuel (listed.setIfInBounds i true)) t σ
theorem wpAnyE_ofS {last m : Nat} {D : Sg → Prop} {Kf : Fr → Sg → Prop} {K : Array Bool → Fr → Sg → Prop} (hK : ∀ listed t σ, K listed t σ → wpAnyE P w0 N ops (fun _ => True) Kf m listed t σ) :
    ∀ (fuel : Nat) (listed : Array Bool) (t : Fr) (σ : Sg), wpAnyS P w0 N ops last D K fuel listed t σ → wpAnyE P w0 N ops (fun _ => True) Kf (m + 1 + fuel) listed t σ
  | 0, listed, t, σ, h => by
    obtain ⟨_, h1, h3⟩ := h
    refine ⟨trivial, fun h0 => (by rw [h1] at h0; cases h0), fun i hi => ?_⟩
    rw [h1] at hi
    have : i = last := by simpa using hi
    subst this
    exact h3.mono fun t σ hk => hK _ t σ hk
  | fuel + 1, listed, t, σ, h =>
    ⟨trivial, fun h0 => absurd h0 h.2.1, fun i hi => (h.2.2 i hi).mono fun t σ hk => wpAnyE_ofS hK fuel _ t σ hk⟩
theorem wpAnyS_first {last : Nat} {D : Sg → Prop} {K : Array Bool → Fr → Sg → Prop} {i : Nat} {oi : Oper} {v : Value} (hi : ops[i]? = some oi) (hsel : ∀ (j : Nat) (o : Oper) cs b, ops[j]? = some o → o.op ≠ .select cs b)
    (hnl : ∀ listed : Array Bool, i ∈ Region.ready .any ops listed → last ∉ Region.ready .any ops listed) :
    ∀ (fuel : Nat) (listed : Array Bool) (t : Fr) (σ : Sg),
      (∀ j oj, ops[j]? = some oj → j ≠ i → listed.getD j true = false → (∀ e ∈ oj.after, Region.binds .any e = true → e.on ≠ i) → oi.apart ops oj = true) →
      i ∈ Region.ready .any ops listed → YldE P w0 N ops D oi v t →
      wpAnyS P w0 N ops last D K fuel (listed.setIfInBounds i true) (updO t oi.dst v) σ → wpAnyS P w0 N ops last D K (fuel + 1) listed t σ := by
  intro fuel
  induction fuel with
  | zero =>
    intro listed t σ _ hr hy H
    refine ⟨H.1, fun h => (by rw [h] at hr; cases hr), fun j hj => ?_⟩
    by_cases hji : j = i
    · subst hji; exact hy.aOp hi H.1 H
    · have h1 := ready_mono hj hji
      rw [H.2.1] at h1
      have : j = last := by simpa using h1
      subst this
      exact absurd hj (hnl listed hr)
  | succ fuel ih =>
    intro listed t σ hfree hr hy H
    refine ⟨H.1, fun h => (by rw [h] at hr; cases hr), fun j hj => ?_⟩
    by_cases hji : j = i
    · subst hji; exact hy.aOp hi H.1 H
    · have h1 := H.2.2 j (ready_mono hj hji)
      obtain ⟨hjun, oj, hoj, hall⟩ := mem_ready.1 hj
      have hnot : ∀ e ∈ oj.after, Region.binds .any e = true → e.on ≠ i := fun e he hb heq => by
        have h1 := hall e he hb
        have h0 := (mem_ready.1 hr).1
        rw [heq] at h1
        rcases Nat.lt_or_ge i listed.size with h' | h'
        · simp [h'] at h0 h1; rw [h0] at h1; cases h1
        · simp [Array.getElem?_eq_none h'] at h1
      obtain ⟨a1, a2, a3⟩ := Oper.apart_spec (hfree j oj hoj hji hjun hnot)
      have si := fun cs b => hsel i oi cs b hi
      have sj := fun cs b => hsel j oj cs b hoj
      have hfree' : ∀ k ok, ops[k]? = some ok → k ≠ i → (listed.setIfInBounds j true).getD k true = false →
          (∀ e ∈ ok.after, Region.binds .any e = true → e.on ≠ i) → oi.apart ops ok = true := fun k ok hk hki hun hno => by
        refine hfree k ok hk hki ?_ hno
        by_cases hjk : j = k
        · subst hjk; exact hjun
        · rw [getD_set_ne true hjk] at hun; exact hun
      have step : ∀ u σ', wpAnyS P w0 N ops last D K fuel ((listed.setIfInBounds i true).setIfInBounds j true) (updO (updO t oi.dst v) oj.dst u) σ' → wpAnyS P w0 N ops last D K (fuel + 1) (listed.setIfInBounds j true) (updO t oj.dst u) σ' := fun u σ' hh => by
        refine ih (listed.setIfInBounds j true) (updO t oj.dst u) σ' hfree' (ready_mono hr (Ne.symm hji)) (hy.upd si a3) ?_
        rw [Array.setIfInBounds_comm _ _ hji, ← updO_comm t v u a2]
        exact hh
      unfold aOp at h1 ⊢
      rw [hoj] at h1 ⊢
      simp only at h1 ⊢
      rw [wantE_upd a1] at h1
      cases hw : wantE N ops oj t with
      | none => rw [hw] at h1; exact h1.elim
      | some b =>
        rw [hw] at h1
        cases b with
        | true => exact OpE.mono (OpE.put sj a1 h1) fun u σ' hh => step u σ' hh
        | false => exact step _ σ h1
/-- 'last' is not ready while k is: for every subset of the rest; k is among the edges of 'last', or leads to one that is -/
def never (ops : Array Oper) (last k : Nat) : Bool := match ops[last]? with
  | none => false
  | some o => o.after.any fun e => Region.binds .any e && e.on == k
theorem never_spec {last k : Nat} (h : never ops last k = true) : ∀ listed : Array Bool, k ∈ Region.ready .any ops listed → last ∉ Region.ready .any ops listed := by
  intro listed hr hl
  unfold never at h
  obtain ⟨_, oj', hoj', hall⟩ := mem_ready.1 hl
  rw [hoj'] at h
  simp only [Array.any_eq_true, Bool.and_eq_true, beq_iff_eq] at h
  obtain ⟨idx, hidx, hb, hei⟩ := h
  have h1 := hall oj'.after[idx] (Array.getElem_mem hidx) hb
  have h0 := (mem_ready.1 hr).1
  rw [hei] at h1
  rcases Nat.lt_or_ge k listed.size with h' | h'
  · simp [h'] at h0 h1; rw [h0] at h1; cases h1
  · simp [Array.getElem?_eq_none h'] at h1
def QT (P : Program) (w0 : World) (N : Nat) (ops : Array Oper) (D : Sg → Prop) (K : Fr → Sg → Prop) : List Oper → Fr → Sg → Prop
  | [], t, σ => K t σ
  | o :: rest, t, σ => ∃ v, YldE P w0 N ops D o v t ∧ QT P w0 N ops D K rest (updO t o.dst v) σ
def lexT (ops : Array Oper) : List Nat → Array Bool → Option (Array Bool)
  | [], listed => some listed
  | k :: ks, listed => bif (Region.ready .any ops listed).contains k && Region.free .any ops listed k then lexT ops ks (listed.setIfInBounds k true) else none
theorem lexT_cons {k : Nat} {ks : List Nat} {listed l' : Array Bool} (h : lexT ops (k :: ks) listed = some l') : k ∈ Region.ready .any ops listed ∧ Region.free .any ops listed k = true ∧ lexT ops ks (listed.setIfInBounds k true) = some l' := by
  unfold lexT at h
  cases hc : ((Region.ready .any ops listed).contains k && Region.free .any ops listed k) with
  | false => rw [hc] at h; cases h
  | true =>
    rw [hc] at h
    simp only [Bool.and_eq_true] at hc
    exact ⟨by simpa using hc.1, hc.2, h⟩
theorem wpAnyE_of_QT {D : Sg → Prop} {Kf K : Fr → Sg → Prop} {m : Nat} {l' : Array Bool} (hs : Region.noSelect ops = true) (hK : ∀ t σ, K t σ → wpAnyE P w0 N ops D Kf m l' t σ) :
    ∀ (l : List Oper) (ks : List Nat) (listed : Array Bool) (t : Fr) (σ : Sg), ks.map (fun k => ops[k]?) = l.map some → lexT ops ks listed = some l' → QT P w0 N ops D K l t σ → wpAnyE P w0 N ops D Kf (m + l.length) listed t σ
  | [], [], listed, t, σ, _, hB, h => by cases hB; exact hK t σ h
  | [], k :: ks, _, _, _, hl, _, _ => by simp at hl
  | o :: l, [], _, _, _, hl, _, _ => by simp at hl
  | o :: l, k :: ks, listed, t, σ, hl, hB, h => by
    have h0 : ops[k]? = some o := (List.cons.inj hl).1
    obtain ⟨hr, hf, hB'⟩ := lexT_cons hB
    obtain ⟨v, hy, hq⟩ := h
    exact wpAnyE_first h0 (Region.noSelect_spec hs) (m + l.length) listed t σ (Region.free_spec h0 hf) hr hy
      (wpAnyE_of_QT hs hK l ks _ _ σ (List.cons.inj hl).2 hB' hq)
/-- one operation with an effect -/
def QE (P : Program) (w0 : World) (N : Nat) (ops : Array Oper) (D : Sg → Prop) (K : Fr → Sg → Prop) : List Oper → Fr → Sg → Prop
  | [o], t, σ => D σ ∧ wantE N ops o t = some true ∧ OpE P w0 N o.op o.type t σ fun v σ' => K (updO t o.dst v) σ'
  | _, _, _ => False
theorem wpAnyS_D {last : Nat} {D : Sg → Prop} {K : Array Bool → Fr → Sg → Prop} {fuel : Nat} {listed : Array Bool} {t : Fr} {σ : Sg} (h : wpAnyS P w0 N ops last D K fuel listed t σ) : D σ := by cases fuel <;> exact h.1
theorem wpAnyS_of_QT {last : Nat} {D : Sg → Prop} {K : Array Bool → Fr → Sg → Prop} {l' : Array Bool} {Ke : Fr → Sg → Prop} (hs : Region.noSelect ops = true) (hK : ∀ t σ, Ke t σ → wpAnyS P w0 N ops last D K 0 l' t σ) :
    ∀ (l : List Oper) (ks : List Nat) (listed : Array Bool) (t : Fr) (σ : Sg), ks.map (fun k => ops[k]?) = l.map some → (ks.all fun k => never ops last k) = true → lexT ops ks listed = some l' → QT P w0 N ops D Ke l t σ → wpAnyS P w0 N ops last D K l.length listed t σ
  | [], [], listed, t, σ, _, _, hB, h => by cases hB; exact hK t σ h
  | [], k :: ks, _, _, _, hl, _, _, _ => by simp at hl
  | o :: l, [], _, _, _, hl, _, _, _ => by simp at hl
  | o :: l, k :: ks, listed, t, σ, hl, hn, hB, h => by
    have h0 : ops[k]? = some o := (List.cons.inj hl).1
    obtain ⟨hr, hf, hB'⟩ := lexT_cons hB
    obtain ⟨v, hy, hq⟩ := h
    simp only [List.all_cons, Bool.and_eq_true] at hn
    exact wpAnyS_first h0 (Region.noSelect_spec hs) (never_spec hn.1) l.length listed t σ (Region.free_spec h0 hf) hr hy
      (wpAnyS_of_QT hs hK l ks _ _ σ (List.cons.inj hl).2 hn.2 hB' hq)
/-- three stretches: ks1 quiet in every state; ks2 quiet in D's states and then the store 'last'; then ks3 (a mark tells quiet from effect, in every state) -/
def lex3 (ops : Array Oper) (ks1 ks2 : List Nat) (last : Nat) (ks3 : List Nat) (ms3 : List Bool) : Bool :=
  Region.noSelect ops && ((ks1 ++ ks2 ++ last :: ks3).all fun k => Nat.blt k ops.size) && (ks1 ++ ks2 ++ last :: ks3).length == ops.size && (ks2.all fun k => never ops last k) &&
    match lexT ops ks1 (Array.replicate ops.size false) with
    | none => false
    | some l1 => match lexT ops ks2 l1 with
      | none => false
      | some l2 => Region.ready .any ops l2 == [last] && lexP ops ms3 ks3 (l2.setIfInBounds last true)
theorem permL_len {α : Type} (l : List α) (ks : List Nat) (h : ∀ k ∈ ks, k < l.length) : (permL ks l).length = ks.length := by
  have := congrArg List.length (permL_get l ks h)
  simpa using this.symm
theorem W.draw3 {Q : Exit → Fr → Sg → Prop} {t : Fr} {σ : Sg} {id : Nat} {l : List Oper} (ks1 ks2 : List Nat) (last : Nat) (ks3 : List Nat) (ms3 : List Bool) (D : Sg → Prop) (hm : P.follows .mixedOrders = true) (hB : lex3 l.toArray ks1 ks2 last ks3 ms3 = true)
    (h : QT P w0 N l.toArray (fun _ => True) (QT P w0 N l.toArray D (QE P w0 N l.toArray D (DL P w0 N l.toArray (fun _ => True) (fun t σ => Q .normal t σ) (permL ks3 l) ms3) (permL [last] l)) (permL ks2 l)) (permL ks1 l) t σ) :
    W P w0 N (.region id l.toArray true) Q t σ := by
  intro a w hr hs
  simp only [lex3, Bool.and_eq_true, beq_iff_eq] at hB
  obtain ⟨⟨⟨⟨hsel, hall⟩, hlen⟩, hnev⟩, hB⟩ := hB
  have hlt : ∀ k ∈ ks1 ++ ks2 ++ last :: ks3, k < l.length := fun k hk => Nat.le_of_ble_eq_true (by
    have := List.all_eq_true.1 hall k hk
    rw [List.size_toArray] at this
    exact this)
  have h1' : ∀ k ∈ ks1, k < l.length := fun k hk => hlt k (by simp [hk])
  have h2' : ∀ k ∈ ks2, k < l.length := fun k hk => hlt k (by simp [hk])
  have h3' : ∀ k ∈ ks3, k < l.length := fun k hk => hlt k (by simp [hk])
  have hla : last < l.length := hlt last (by simp)
  have hlast : permL [last] l = [l[last]] := by simp [permL, hla]
  cases hc1 : lexT l.toArray ks1 (Array.replicate l.toArray.size false) with
  | none => rw [hc1] at hB; cases hB
  | some l1 =>
    rw [hc1] at hB
    simp only at hB
    cases hc2 : lexT l.toArray ks2 l1 with
    | none => rw [hc2] at hB; cases hB
    | some l2 =>
      rw [hc2] at hB
      simp only [Bool.and_eq_true, beq_iff_eq] at hB
      obtain ⟨hrd, hP⟩ := hB
      have key := wpAnyE_of_QT (Kf := fun t σ => Q .normal t σ) (m := (permL ks3 l).length + 1 + (permL ks2 l).length) (l' := l1) hsel (fun t σ hq => by
        refine wpAnyE_ofS (last := last) (D := D) (K := fun listed t σ => listed = l2.setIfInBounds last true ∧ DL P w0 N l.toArray (fun _ => True) (fun t σ => Q .normal t σ) (permL ks3 l) ms3 t σ) (fun listed t σ ⟨he, hd⟩ => ?_) _ l1 t σ (wpAnyS_of_QT (l' := l2) hsel (fun t σ hq => ?_) (permL ks2 l) ks2 l1 t σ (by simpa using permL_get l ks2 h2') hnev hc2 hq)
        · subst he
          exact wpAnyE_of_DLP hsel (permL ks3 l) ms3 ks3 _ t σ (by simpa using permL_get l ks3 h3') hP hd
        · rw [hlast] at hq
          obtain ⟨hD, hw, ho⟩ := hq
          refine ⟨hD, hrd, ?_⟩
          unfold aOp
          have : l.toArray[last]? = some l[last] := by simp [hla]
          rw [this]
          simp only [hw]
          exact ho.mono fun v σ' hh => ⟨trivial, hh⟩) (permL ks1 l) ks1 _ t σ (by simpa using permL_get l ks1 h1') hc1 h
      rw [permL_len l ks1 h1', permL_len l ks2 h2', permL_len l ks3 h3'] at key
      rw [show ks3.length + 1 + ks2.length + ks1.length = l.toArray.size by rw [← hlen]; simp; omega] at key
      exact wp_region_any hm (wpAny_of (fun _ _ h => h) _ _ _ _ a _ key hr (hs.drawn _))
section
variable {D : Sg → Prop} {K : Fr → Sg → Prop} {t : Fr} {σ : Sg} {rest : List Oper} {op : Op} {ty : TypeId} {pos : String} {af : Array Edge}
theorem QT.v {d : Nat} {v : Value} (h : ∀ σ', D σ' → OpV P w0 N op ty t σ' v) (hk : QT P w0 N ops D K rest (upd t d v) σ) : QT P w0 N ops D K (⟨some d, op, ty, pos, af, .none⟩ :: rest) t σ :=
  ⟨v, .inl ⟨rfl, h⟩, hk⟩
theorem QT.nil (h : K t σ) : QT P w0 N ops D K [] t σ := h
theorem QE.e0 {E : Value → Sg → Prop} (hD : D σ) (h : OpE P w0 N op ty t σ E) (hk : ∀ v σ', E v σ' → K t σ') : QE P w0 N ops D K [⟨.none, op, ty, pos, af, .none⟩] t σ :=
  ⟨hD, rfl, h.mono fun v σ' hh => hk v σ' hh⟩
end
end
end Go.Proofs.Ytpgmpjejfpmnoaa.En
