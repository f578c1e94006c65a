/-
  The engine: small helpers for the walks; a law's arguments, read in the world in which the call begins.
-/
import Derived.Test.YtnonlibekcacgaaEngF
import Derived.ProofKit
import Derived.Deep.Slices
namespace Go.Proofs.Ytnonlibekcacgaa.En
open Go
set_option linter.unusedVariables false

theorem frame_of (t : Fr) : ∀ (l : List (Nat × Value)), (∀ p ∈ l, t p.1 = p.2) → l.foldl (fun s p => upd s p.1 p.2) t = t
  | [], _ => rfl
  | p :: l, h => by
    show l.foldl (fun s p => upd s p.1 p.2) (upd t p.1 p.2) = t
    rw [upd_self (h p (by simp))]
    exact frame_of t l fun q hq => h q (by simp [hq])

section
variable {σ : Sg} {α : Type}
theorem Sl.elem {k : Nat} {p : Option Addr} {f : α → List Value} {xs : List α} (h : Sl σ k p (xs.map f)) (i : Nat) (hi : i < xs.length) (d : α) : ∃ b off, p = some ⟨b, off, none⟩ ∧ Rds σ b (off + i * k) (f (xs.getD i d)) :=
  h.get (by simp [hi])
theorem Sl.at {k : Nat} {b off : Nat} {f : α → List Value} {xs : List α} (h : Sl σ k (some ⟨b, off, none⟩) (xs.map f)) (i : Nat) (hi : i < xs.length) (d : α) : Rds σ b (off + i * k) (f (xs.getD i d)) := by
  obtain ⟨b', off', hp, hr⟩ := h.elem i hi d
  cases hp
  exact hr
theorem Sl.cases {k : Nat} {p : Option Addr} {rows : List (List Value)} (h : Sl σ k p rows) : rows = [] ∨ ∃ b off, p = some ⟨b, off, none⟩ := by
  rcases h with h | ⟨b, off, hp, _⟩
  · exact .inl h
  · exact .inr ⟨b, off, hp⟩
theorem Rds.fst {b off : Nat} {v : Value} {vs : List Value} (h : Rds σ b off (v :: vs)) : Rd σ b off v := h 0 v rfl
theorem Rds.snd {b off : Nat} {u v : Value} {vs : List Value} (h : Rds σ b off (u :: v :: vs)) : Rd σ b (off + 1) v := h 1 v rfl
theorem Rds.trd {b off : Nat} {x u v : Value} {vs : List Value} (h : Rds σ b off (x :: u :: v :: vs)) : Rd σ b (off + 2) v := h 2 v rfl
theorem Rd.of {b off : Nat} {e : TypeId} {cs : List Value} {v : Value} (h : σ b = some (e, cs)) (ho : cs[off]? = some v) : Rd σ b off v := ⟨e, cs, h, ho⟩
/-- a slice over a tracked block's head -/
theorem Sl.of {k b : Nat} {e : TypeId} {f : α → List Value} {xs : List α} (h : σ b = some (e, (xs.map f).flatten)) (hk : ∀ x ∈ xs, (f x).length = k) : Sl σ k (some ⟨b, 0, none⟩) (xs.map f) := by
  refine .inr ⟨b, 0, rfl, fun i r hr j v hj => ⟨e, _, h, ?_⟩⟩
  have hlen : ∀ (ys : List α), (∀ y ∈ ys, (f y).length = k) → ∀ (i : Nat) (r : List Value), (ys.map f)[i]? = some r → ∀ (j : Nat) v, r[j]? = some v → ((ys.map f).flatten)[i * k + j]? = some v := by
    intro ys
    induction ys with
    | nil => intro _ i r hr; simp at hr
    | cons y ys ih =>
      intro hy i r hr j v hj
      have hyk := hy y (by simp)
      cases i with
      | zero =>
        simp at hr
        subst hr
        have hjk : j < (f y).length := (List.getElem?_eq_some_iff.1 hj).1
        simp only [List.map_cons, List.flatten_cons, Nat.zero_mul, Nat.zero_add]
        rw [List.getElem?_append_left hjk]
        exact hj
      | succ i =>
        simp only [List.map_cons, List.flatten_cons]
        rw [List.getElem?_append_right (by rw [hyk, Nat.succ_mul]; omega), hyk]
        rw [show (i + 1) * k + j - k = i * k + j by rw [Nat.succ_mul]; omega]
        exact ih (fun z hz => hy z (by simp [hz])) i r (by simpa using hr) j v hj
  rw [show 0 + i * k + j = i * k + j by omega]
  exact hlen xs hk i r hr j v hj
end

/-! ### the start -/
def sig0 (W : World) : Sg := fun b => match W.heap[b]? with
  | some (.cells c e _) => some (e, c.toList)
  | _ => none
theorem sat0 (W : World) : Sat W (sig0 W) W := by
  refine ⟨RowKit.Below.refl _ _, fun b e cs hb => ?_⟩
  unfold sig0 at hb
  split at hb
  · rename_i c e' f hc
    cases hb
    refine ⟨c, f, hc, rfl, fun hlt => ?_⟩
    have := (Array.getElem?_eq_some_iff.1 hc).1
    omega
  · cases hb
theorem sig0_lt {W : World} {b : Nat} {x} (h : sig0 W b = some x) : b < W.heap.size := (sat0 W).lt h
theorem rd0 {W : World} {b off : Nat} {v : Value} (h : W.cell? ⟨b, off, none⟩ = some v) : Rd (sig0 W) b off v := by
  unfold World.cell? at h
  split at h
  · rename_i c e f hc
    simp only [Option.isSome_none, Bool.false_eq_true, if_false] at h
    refine ⟨e, c.toList, ?_, by simpa using h⟩
    unfold sig0
    have hc' : W.heap[b]? = some (.cells c e f) := hc
    rw [hc']
  · cases h
theorem Fn.law {P : Program} {f : FuncId} {args : Array Value} {W : World} (h : Fn P W f args.toList (sig0 W) fun u _ => u = .bool true) :
    Calls P f args W fun e w' => e = .returned (.bool true) ∧ RowKit.Below W.heap.size W w' :=
  (h args W rfl (sat0 W)).mono fun e w' ⟨u, v, σ', h1, h2, h3, h4⟩ => by
    subst h4
    rw [sim_bool h2] at h1
    exact ⟨h1, h3.below⟩

section
open Go.ChangeShapes Go.WideShapes
variable {H : Type} {enc : TypeId × Value → H} {P : Program} {W : World} {spare : Nat → Bool} {held : Bool}
theorem trod_floatV {e : TypeId} {k : FloatKind} {n : Nat} {v : Value} {x} (he : P.underlying e = some (.float k)) (h : DataW.trod enc P W 0 spare held n e [v] = some x) : ∃ b, v = .float k b := by
  cases n with
  | zero => simp [DataW.trod] at h
  | succ n =>
    simp only [DataW.trod, he] at h
    cases v <;> simp at h
    rename_i k' b
    exact ⟨b, by rw [h.1.1]⟩
/-- a slice of floats that came in -/
theorem arg_floats {t e : TypeId} {k : FloatKind} {a : Option Addr} {len cap : Nat} {d : DataW H} {ps : List MemPlace} (ht : P.underlying t = some (.slice e)) (he : P.underlying e = some (.float k)) (hc : P.cellsOf e = 1)
    (h : DataW.Trod enc P W 0 spare held t (.slice a len cap) d ps) : ∃ xs : List Nat, xs.length = len ∧ Sl (sig0 W) 1 a (xs.map fun x => [Value.float k x]) := by
  obtain ⟨fuel, hf⟩ := h
  rcases Deep.open_slice1 ht hc hf with ⟨hcs, _⟩ | ⟨ad, l, c, m, n, V, D, Pl, hcs, _, hl, hm, hmm, _, hx⟩
  · simp [Value.cells] at hcs
    obtain ⟨rfl, rfl, rfl⟩ := hcs
    exact ⟨[], rfl, .inl rfl⟩
  · simp [Value.cells] at hcs
    obtain ⟨rfl, rfl, rfl⟩ := hcs
    have hlm : len ≤ m := by rw [hmm]; split <;> omega
    have hV : ∀ i, i < len → ∃ b, V i = .float k b := fun i hi => trod_floatV he (hx i (by omega)).2
    obtain ⟨X, hX⟩ := Deep.choose_lt hV
    refine ⟨(List.range len).map X, by simp, ?_⟩
    by_cases h0 : len = 0
    · subst h0; exact .inl rfl
    · obtain ⟨b, off, spot⟩ := ad
      have hc0 := (hx 0 (by omega)).1
      have hspot : spot = none := by simpa [Addr.add] using World.cell?_spot hc0
      subst hspot
      refine .inr ⟨b, off, rfl, fun i r hr => ?_⟩
      have hi : i < len := by
        have := (List.getElem?_eq_some_iff.1 hr).1
        simpa using this
      simp [hi] at hr
      subst hr
      intro j v hj
      have hj0 : j = 0 := by
        have := (List.getElem?_eq_some_iff.1 hj).1
        simp at this; exact this
      subst hj0
      simp at hj
      subst hj
      have := (hx i (by omega)).1
      rw [addr_add, hX i hi] at this
      rw [show off + i * 1 + 0 = off + i by omega]
      exact rd0 this
end
end Go.Proofs.Ytnonlibekcacgaa.En
