/- Engine, part N: a draw whose first operation (an allocation) is walked later in the row. -/
import Derived.Test.YtnonlibekcacgaaEngM
namespace Go.Proofs.Ytnonlibekcacgaa.En
open Go
set_option linter.unusedVariables false
def sink {α : Type} : Nat → List α → List α
  | n + 1, a :: b :: l => b :: sink n (a :: l)
  | _, l => l
theorem sink_map {α β : Type} (f : α → β) : ∀ (n : Nat) (l : List α), (sink n l).map f = sink n (l.map f)
  | 0, l => by simp [sink]
  | n + 1, [] => by simp [sink]
  | n + 1, [a] => by simp [sink]
  | n + 1, a :: b :: l => by
    have := sink_map f n (a :: l)
    simp only [sink, List.map_cons] at this ⊢
    rw [this]
section
variable {P : Program} {w0 : World} {N : Nat}
def lexP (ops : Array Oper) : List Bool → List Nat → Array Bool → Bool
  | [], [], listed => (Region.ready .any ops listed).isEmpty
  | true :: m, k :: ks, listed => (Region.ready .any ops listed).contains k && Region.free .any ops listed k && lexP ops m ks (listed.setIfInBounds k true)
  | false :: m, k :: ks, listed => Region.ready .any ops listed == [k] && lexP ops m ks (listed.setIfInBounds k true)
  | _, _, _ => false
theorem wpAnyE_of_DLP {ops : Array Oper} {D : Sg → Prop} {K : Fr → Sg → Prop} (hs : Region.noSelect ops = true) : ∀ (l : List Oper) (ms : List Bool) (ks : List Nat) (listed : Array Bool) (t : Fr) (σ : Sg), ks.map (fun k => ops[k]?) = l.map some →
    lexP ops ms ks listed = true → DL P w0 N ops D K l ms t σ → wpAnyE P w0 N ops D K l.length listed t σ
  | [], [], [], listed, t, σ, _, hB, h => ⟨h.1, by simpa [lexP] using hB, h.2⟩
  | [], m :: ms, [], _, _, _, _, hB, _ => by simp [lexP] at hB
  | [], _, k :: ks, _, _, _, hl, _, _ => by simp at hl
  | o :: l, _, [], _, _, _, hl, _, _ => by simp at hl
  | o :: l, [], k :: ks, _, _, _, _, hB, _ => by simp [lexP] at hB
  | o :: l, true :: ms, k :: ks, listed, t, σ, hl, hB, h => by
    have h0 : ops[k]? = some o := (List.cons.inj hl).1
    simp only [lexP, Bool.and_eq_true] at hB
    obtain ⟨⟨hr, hf⟩, hB'⟩ := hB
    obtain ⟨v, hy, hK⟩ := h
    exact wpAnyE_first h0 (Region.noSelect_spec hs) l.length listed t σ (Region.free_spec h0 hf) (by simpa using hr) hy
      (wpAnyE_of_DLP hs l ms ks _ _ σ (List.cons.inj hl).2 hB' hK)
  | o :: l, false :: ms, k :: ks, listed, t, σ, hl, hB, h => by
    have h0 : ops[k]? = some o := (List.cons.inj hl).1
    simp only [lexP, Bool.and_eq_true, beq_iff_eq] at hB
    obtain ⟨hr, hB'⟩ := hB
    obtain ⟨hD, hw, hK⟩ := h
    show wpAnyE P w0 N ops D K (l.length + 1) listed t σ
    refine ⟨hD, ⟨fun hh => (by rw [hr] at hh; cases hh), fun i hi => ?_⟩⟩
    rw [hr] at hi
    have : i = k := by simpa using hi
    subst this
    unfold aOp
    rw [h0]
    simp only [hw]
    exact hK.mono fun v σ' hh => wpAnyE_of_DLP hs l ms ks _ _ σ' (List.cons.inj hl).2 hB' hh
def lexSink (ops : Array Oper) (n : Nat) (ms : List Bool) : Bool := Region.noSelect ops && lexP ops ms (sink n (List.range ops.size)) (Array.replicate ops.size false)
theorem range_get {α : Type} (l : List α) : (List.range l.length).map (fun k => l[k]?) = l.map some := by
  apply List.ext_getElem?
  intro i
  by_cases h : i < l.length
  · simp [h]
  · simp [h]
theorem sink_length {α : Type} : ∀ (n : Nat) (l : List α), (sink n l).length = l.length
  | 0, l => by simp [sink]
  | n + 1, [] => by simp [sink]
  | n + 1, [a] => by simp [sink]
  | n + 1, a :: b :: l => by
    have := sink_length n (a :: l)
    simp only [sink, List.length_cons] at this ⊢
    rw [this]
theorem W.drawSink {Q : Exit → Fr → Sg → Prop} {t : Fr} {σ : Sg} {id : Nat} {l : List Oper} (n : Nat) (ms : List Bool) (D : Sg → Prop) (hm : P.follows .mixedOrders = true) (hB : lexSink l.toArray n ms = true)
    (h : DL P w0 N l.toArray D (fun t σ => Q .normal t σ) (sink n l) ms t σ) : W P w0 N (.region id l.toArray true) Q t σ := by
  intro a w hr hs
  simp only [lexSink, Bool.and_eq_true] at hB
  obtain ⟨hsel, hB⟩ := hB
  have := wpAnyE_of_DLP hsel (sink n l) ms _ (Array.replicate l.toArray.size false) t σ (by
    rw [sink_map, sink_map]
    have := range_get l
    simp only [List.size_toArray, List.getElem?_toArray]
    rw [this]) hB h
  rw [sink_length] at this
  exact wp_region_any hm (wpAny_of (fun _ _ h => h) _ _ _ _ a _ (by simpa using this) hr (hs.drawn _))
end
end Go.Proofs.Ytnonlibekcacgaa.En
