/- Engine, part P: a slice of structs of one whole number and two numbers that came in. -/
import Derived.Test.YtnonlibekcacgaaEngM
import Derived.Deep.Slices
import Derived.DataReads
namespace Go.Proofs.Ytnonlibekcacgaa.En
open Go
set_option linter.unusedVariables false
def el (x : Int × Nat × Nat) : List Value := [.int .i64 x.1, .float .f32 x.2.1, .float .f32 x.2.2]
section
open Go.ChangeShapes Go.WideShapes
variable {H : Type} {enc : TypeId × Value → H} {P : Program} {W : World} {spare : Nat → Bool} {held : Bool}
theorem trod_elemV {e : TypeId} {f0 f1 f2 : Field} {n : Nat} {cs : List Value} {x} (he : P.underlying e = some (.struct #[f0, f1, f2])) (hl : cs.length = 3)
    (o0 : f0.offset = 0) (o1 : f1.offset = 1) (o2 : f2.offset = 2) (c0 : P.cellsOf f0.type = 1) (c1 : P.cellsOf f1.type = 1) (c2 : P.cellsOf f2.type = 1)
    (h0 : P.underlying f0.type = some (.int .i64)) (h1 : P.underlying f1.type = some (.float .f32)) (h2 : P.underlying f2.type = some (.float .f32))
    (h : DataW.trod enc P W 0 spare held n e cs = some x) : ∃ y, cs = el y := by
  obtain ⟨xs, m, _, _, _, hlen, hg⟩ := DataW.trod_struct he h
  match xs, hlen, cs, hl with
  | [y0, y1, y2], _, [a0, a1, a2], _ =>
    have g0 := hg 0 f0 rfl
    have g1 := hg 1 f1 rfl
    have g2 := hg 2 f2 rfl
    simp only [o0, c0, o1, c1, o2, c2, List.drop_zero, List.drop_succ_cons, List.take_succ_cons, List.take_zero] at g0 g1 g2
    obtain ⟨x, rfl⟩ := trod_intV h0 (by simpa using g0)
    obtain ⟨y, rfl⟩ := trod_floatV h1 (by simpa using g1)
    obtain ⟨z, rfl⟩ := trod_floatV h2 (by simpa using g2)
    exact ⟨(x, y, z), rfl⟩
theorem arg_elems {t e : TypeId} {f0 f1 f2 : Field} {a : Option Addr} {len cap : Nat} {d : DataW H} {ps : List MemPlace} (ht : P.underlying t = some (.slice e)) (he : P.underlying e = some (.struct #[f0, f1, f2])) (hc : P.cellsOf e = 3)
    (o0 : f0.offset = 0) (o1 : f1.offset = 1) (o2 : f2.offset = 2) (c0 : P.cellsOf f0.type = 1) (c1 : P.cellsOf f1.type = 1) (c2 : P.cellsOf f2.type = 1)
    (h0 : P.underlying f0.type = some (.int .i64)) (h1 : P.underlying f1.type = some (.float .f32)) (h2 : P.underlying f2.type = some (.float .f32))
    (h : DataW.Trod enc P W 0 spare held t (.slice a len cap) d ps) : ∃ xs : List (Int × Nat × Nat), xs.length = len ∧ Sl (sig0 W) 3 a (xs.map el) ∧ len ≤ maxLen := by
  obtain ⟨fuel, hf⟩ := h
  rcases Deep.open_slice ht hf with ⟨hcs, _⟩ | ⟨ad, l, c, m, n, D, Pl, hcs, _, hl, hm, hmm, _, hx⟩
  · simp [Value.cells] at hcs
    obtain ⟨rfl, rfl, rfl⟩ := hcs
    exact ⟨[], rfl, .inl rfl, by simp [maxLen]⟩
  · simp [Value.cells] at hcs
    obtain ⟨rfl, rfl, rfl⟩ := hcs
    have hlm : len ≤ m := by rw [hmm]; split <;> omega
    have hV : ∀ i, i < len → ∃ y : Int × Nat × Nat, ∀ j v, (el y)[j]? = some v → W.cell? ((ad.add (i * 3)).add j) = some v := fun i hi => by
      obtain ⟨cs, h3, h4⟩ := hx i (by omega)
      rw [hc] at h3
      obtain ⟨_, hl3, hget⟩ := World.cells?_some h3
      obtain ⟨y, rfl⟩ := trod_elemV he hl3 o0 o1 o2 c0 c1 c2 h0 h1 h2 h4
      refine ⟨y, fun j v hj => ?_⟩
      have hj3 : j < 3 := by
        have := (List.getElem?_eq_some_iff.1 hj).1
        simpa [el] using this
      have := hget j hj3
      rw [hj] at this
      exact this
    obtain ⟨X, hX⟩ := Deep.choose_lt hV
    refine ⟨(List.range len).map X, by simp, ?_, by omega⟩
    by_cases h0' : len = 0
    · subst h0'; exact .inl rfl
    · obtain ⟨b, off, spot⟩ := ad
      have hc0 := hX 0 (by omega) 0 _ rfl
      have hspot : spot = none := by simpa [Addr.add] using World.cell?_spot hc0
      subst hspot
      refine .inr ⟨b, off, rfl, fun i r hr => ?_⟩
      have hi : i < len := by
        have := (List.getElem?_eq_some_iff.1 hr).1
        simpa using this
      simp [hi] at hr
      subst hr
      intro j v hj
      have := hX i hi j v hj
      rw [addr_add, addr_add] at this
      exact rd0 this
end
end Go.Proofs.Ytnonlibekcacgaa.En
