/-
  Floats: widening never overflows; a conversion to the same kind.
-/
import Derived.Test.YtnonlibekcacgaaEngG
namespace Go.Proofs.Ytnonlibekcacgaa.En
open Go
set_option linter.unusedVariables false

theorem rung_word (f : Ieee.Format) (neg : Bool) (r : Nat) (h : r < f.signWeight) : f.word neg r % f.signWeight = r := by
  unfold Ieee.Format.word
  split
  · rw [Nat.add_mod_left, Nat.mod_eq_of_lt h]
  · exact Nat.mod_eq_of_lt h
theorem isInf_word (f : Ieee.Format) (hle : f.binade ≤ f.infRung) (neg : Bool) (r : Nat) (h : r < f.infRung) : (f.read (f.word neg r)).isInfinity = false := by
  have hlt := f.infRung_lt
  unfold Ieee.Format.read
  dsimp only
  rw [rung_word f neg r (by omega)]
  split
  · rfl
  · first | rfl | (rw [if_pos h]; rfl)
theorem read_single (b : Nat) : (∃ s t, Ieee.single.read b = .nan s t) ∨ (∃ s, Ieee.single.read b = .infinity s) ∨ ∃ s m e, Ieee.single.read b = .number s m e ∧ m < 16777216 ∧ -149 ≤ e ∧ e ≤ 104 := by
  have eb : Ieee.single.binade = 8388608 := by decide
  have ei : Ieee.single.infRung = 2139095040 := by decide
  have el : Ieee.single.leastPlace = -149 := by decide
  unfold Ieee.Format.read
  dsimp only
  rw [eb, ei, el]
  generalize b % Ieee.single.signWeight = r
  split
  · right; right; exact ⟨_, _, _, rfl, by omega, by omega, by omega⟩
  · split
    · right; right
      refine ⟨_, _, _, rfl, by omega, by omega, by omega⟩
    · split
      · right; left; exact ⟨_, rfl⟩
      · left; exact ⟨_, _, rfl⟩
theorem cut_zero (w : Ieee.Toward) (neg : Bool) (n : Nat) : w.cut neg n 0 = n := by
  unfold Ieee.Toward.cut
  cases w <;> simp [Nat.mod_one]
  all_goals omega
/-- a number of few digits is a double as it stands -/
theorem nearest_double (neg : Bool) (m : Nat) (e : Int) (h0 : m ≠ 0) (hm : m.log2 ≤ 52) (he : -1000 ≤ e) (he' : e + m.log2 ≤ 1000) :
    Ieee.double.nearest neg m e = Ieee.double.word neg (((e + m.log2 - 52) + 1074).toNat * 4503599627370496 + m <<< (52 - m.log2)) ∧ ((e + m.log2 - 52) + 1074).toNat * 4503599627370496 + m <<< (52 - m.log2) < 9218868437227405312 := by
  have eb : Ieee.double.binade = 4503599627370496 := by decide
  have ei : Ieee.double.infRung = 9218868437227405312 := by decide
  have el : Ieee.double.leastPlace = -1074 := by decide
  have ef : Ieee.double.fractionBits = 52 := rfl
  have hl : max (e + (m.log2 : Int) - (52 : Nat)) (-1074) = e + m.log2 - 52 := by omega
  have hk : m <<< (52 - m.log2) < 9007199254740992 := by
    rw [Nat.shiftLeft_eq]
    have h1 : m < 2 ^ (m.log2 + 1) := Nat.lt_log2_self
    have h2 : m * 2 ^ (52 - m.log2) < 2 ^ (m.log2 + 1) * 2 ^ (52 - m.log2) := Nat.mul_lt_mul_of_pos_right h1 (Nat.two_pow_pos _)
    rw [← Nat.pow_add, show m.log2 + 1 + (52 - m.log2) = 53 by omega] at h2
    exact h2
  have hb : ((e + m.log2 - 52) + 1074).toNat * 4503599627370496 + m <<< (52 - m.log2) < 9218868437227405312 := by omega
  refine ⟨?_, hb⟩
  unfold Ieee.Format.nearest
  rw [if_neg h0]
  simp only [eb, ei, el, ef, hl]
  have e1 : (e - (e + (m.log2 : Int) - 52)).toNat = 52 - m.log2 := by omega
  have e2 : ((e + (m.log2 : Int) - 52) - e).toNat = 0 := by omega
  rw [e1, e2, cut_zero, show (e + (m.log2 : Int) - 52 - -1074) = e + m.log2 - 52 + 1074 by omega]
  rw [Nat.min_eq_left (by omega)]
theorem log2_lt24 {m : Nat} (h0 : m ≠ 0) (h : m < 16777216) : m.log2 ≤ 23 := by
  have := (Nat.log2_lt h0 (k := 24)).2 (by simpa using h)
  omega
/-- float64(x) of a float32 is never too great -/
theorem okw (a : Nat) : okcvt .f32 .f64 a = true := by
  unfold okcvt floatToFloatBits isnan FloatKind.decode FloatKind.encode
  rcases read_single a with ⟨s, t, h⟩ | ⟨s, h⟩ | ⟨s, m, e, h, hm, he, he'⟩
  · have h' : FloatKind.f32.format.read a = .nan s t := h
    simp [h', Ieee.Datum.isNaN]
  · have h' : FloatKind.f32.format.read a = .infinity s := h
    simp [h']
  · have h' : FloatKind.f32.format.read a = .number s m e := h
    have hi : (FloatKind.f64.format.read (FloatKind.f64.format.write (.number s m e))).isInfinity = false := by
      show (Ieee.double.read (Ieee.double.nearest s m e)).isInfinity = false
      by_cases h0 : m = 0
      · subst h0
        have : Ieee.double.nearest s 0 e = Ieee.double.word s 0 := by unfold Ieee.Format.nearest; rfl
        rw [this]
        exact isInf_word _ (by decide) _ _ (by decide)
      · have hl := log2_lt24 h0 hm
        obtain ⟨h1, h2⟩ := nearest_double s m e h0 (by omega) (by omega) (by omega)
        rw [h1]
        exact isInf_word _ (by decide) _ _ (by have ei : Ieee.double.infRung = 9218868437227405312 := by decide
                                               omega)
    simp [h', hi]
section
variable {P : Program} {w0 : World} {N : Nat} {ty : TypeId} {t : Fr} {σ : Sg}
theorem cvt_same (k : FloatKind) (a : Nat) : cvt k k a = a := by simp [cvt, floatToFloatBits]
theorem o_cvSame {x : Operand} {S D : TypeId} {k : FloatKind} {a : Nat} (hs : (P.underlying S).isSome = true) (hd : P.underlying D = some (.float k)) (hx : ev N t x = .float k a) : OpV P w0 N (.convert S D x) ty t σ (.float k a) := by
  have := o_cvFF (P := P) (w0 := w0) (ty := ty) (σ := σ) (s := k) hs hd hx (by simp [okcvt, floatToFloatBits])
  rwa [cvt_same] at this
end
end Go.Proofs.Ytnonlibekcacgaa.En
