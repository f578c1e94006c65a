/- Engine, part Q: what a finite 64-bit number stands for, as a whole number of units of 2^-1074; bounds for sums, products, quotients and roots. No program in sight. -/
import Derived.Test.YtnonlibekcacgaaEngH
namespace Go.Proofs.Ytnonlibekcacgaa.En
open Go
set_option linter.unusedVariables false
theorem read_word (f : Ieee.Format) (neg : Bool) (r : Nat) (h : r < f.signWeight) :
    f.read (f.word neg r) = if r < f.binade then .number neg r f.leastPlace else if r < f.infRung then .number neg (f.binade + r % f.binade) (f.leastPlace + (r / f.binade - 1 : Nat)) else if r = f.infRung then .infinity neg else .nan neg (r - f.infRung) := by
  have e1 : f.word neg r % f.signWeight = r := rung_word f neg r h
  have e2 : (f.word neg r / f.signWeight % 2 == 1) = neg := by
    unfold Ieee.Format.word
    cases neg
    · simp [Nat.div_eq_of_lt h]
    · have hp : 0 < f.signWeight := by omega
      simp [Nat.add_div_left, hp, Nat.div_eq_of_lt h]
  unfold Ieee.Format.read
  simp only [e1, e2]
theorem cut_le (neg : Bool) (n drop k : Nat) (h : n ≤ 2 ^ (k + drop)) : Ieee.Toward.even.cut neg n drop ≤ 2 ^ k := by
  have hk : 1 ≤ 2 ^ k := Nat.one_le_two_pow
  unfold Ieee.Toward.cut
  dsimp only
  by_cases hd : drop ≤ n.log2 + 2
  · rw [Nat.min_eq_left hd, Nat.one_shiftLeft]
    have hg : 0 < 2 ^ drop := Nat.two_pow_pos drop
    rw [Nat.pow_add] at h
    rcases Nat.lt_or_ge n (2 ^ k * 2 ^ drop) with h1 | h1
    · have h2 : n / 2 ^ drop < 2 ^ k := Nat.div_lt_of_lt_mul (by rw [Nat.mul_comm]; exact h1)
      have h3 : ∀ b : Bool, b.toNat ≤ 1 := fun b => by cases b <;> decide
      exact Nat.le_trans (Nat.add_le_add_left (h3 _) _) h2
    · have e : n = 2 ^ k * 2 ^ drop := Nat.le_antisymm h h1
      subst e
      rw [Nat.mul_div_cancel _ hg, Nat.mul_mod_left]
      have : (decide (2 ^ drop < 2 * 0) || (2 ^ drop == 2 * 0 && 2 ^ k % 2 == 1)) = false := by
        have h1 : ¬ (2 ^ drop < 2 * 0) := by omega
        have h2 : (2 ^ drop == 2 * 0) = false := by rw [beq_eq_false_iff_ne]; omega
        rw [h2]; simp
      rw [this]; simp
  · have h1 : n / 1 <<< min drop (n.log2 + 2) = 0 := by
      rw [Nat.min_eq_right (by omega), Nat.one_shiftLeft]
      exact Nat.div_eq_of_lt (Nat.lt_of_lt_of_le Nat.lt_log2_self (Nat.pow_le_pow_right (by decide) (by omega)))
    rw [h1, Nat.zero_add]
    have h3 : ∀ b : Bool, b.toNat ≤ 1 := fun b => by cases b <;> decide
    exact Nat.le_trans (h3 _) hk
theorem cut_ge (neg : Bool) (n drop k : Nat) (h : 2 ^ (k + drop) ≤ n) : 2 ^ k ≤ Ieee.Toward.even.cut neg n drop := by
  unfold Ieee.Toward.cut
  dsimp only
  have h0 : n ≠ 0 := by have := Nat.two_pow_pos (k + drop); omega
  have hl : k + drop ≤ n.log2 := (Nat.le_log2 h0).2 h
  rw [Nat.min_eq_left (by omega), Nat.one_shiftLeft]
  rw [Nat.pow_add] at h
  exact Nat.le_trans ((Nat.le_div_iff_mul_le (Nat.two_pow_pos drop)).2 h) (Nat.le_add_right _ _)

/-- a finite number, in units of 2^-1074 -/
def dval : Ieee.Datum → Option Int
  | .number s m e => some (Ieee.signed s m (e + 1074).toNat)
  | _ => none
def val (b : Nat) : Option Int := dval (Ieee.double.read b)
theorem sgn0 (s : Bool) (m : Nat) : Ieee.signed s m 0 = if s then -(m : Int) else m := by
  simp [Ieee.signed]
theorem sgn_eq (s : Bool) (m u : Nat) : Ieee.signed s m u = Ieee.signed s (m * 2 ^ u) 0 := by
  simp [Ieee.signed, Nat.shiftLeft_eq]
theorem dE : Ieee.double.binade = 4503599627370496 ∧ Ieee.double.infRung = 9218868437227405312 ∧ Ieee.double.leastPlace = -1074 ∧ Ieee.double.fractionBits = 52 ∧ Ieee.double.signWeight = 9223372036854775808 := by decide
/-- the value of a rung -/
theorem val_rung (s : Bool) (L kept : Nat) (hk : kept ≤ 9007199254740992) (hL : L = 0 ∨ 4503599627370496 ≤ kept) (hh : L ≤ 2040) :
    val (Ieee.double.word s (L * 4503599627370496 + kept)) = some (Ieee.signed s (kept * 2 ^ L) 0) := by
  obtain ⟨eb, ei, el, ef, es⟩ := dE
  unfold val
  rw [read_word _ _ _ (by rw [es]; omega), eb, ei, el]
  by_cases h1 : L * 4503599627370496 + kept < 4503599627370496
  · rw [if_pos h1]
    have : L = 0 := by omega
    subst this
    simp [dval]
  · rw [if_neg h1, if_pos (by omega)]
    simp only [dval]
    rw [sgn_eq]
    congr 2
    rcases Nat.lt_or_ge kept 9007199254740992 with h2 | h2
    · have e1 : (L * 4503599627370496 + kept) / 4503599627370496 = L + 1 := by omega
      have e2 : 4503599627370496 + (L * 4503599627370496 + kept) % 4503599627370496 = kept := by omega
      rw [e1, e2]
      congr 2
      omega
    · have e0 : kept = 9007199254740992 := by omega
      subst e0
      have e1 : (L * 4503599627370496 + 9007199254740992) / 4503599627370496 = L + 2 := by omega
      have e2 : 4503599627370496 + (L * 4503599627370496 + 9007199254740992) % 4503599627370496 = 4503599627370496 := by omega
      rw [e1, e2, show (-1074 + ((L + 2 - 1 : Nat) : Int) + 1074).toNat = L + 1 by omega, Nat.pow_succ]
      omega
theorem val_zero (s : Bool) (e : Int) : val (Ieee.double.nearest s 0 e) = some 0 := by
  have : Ieee.double.nearest s 0 e = Ieee.double.word s 0 := by unfold Ieee.Format.nearest; rfl
  rw [this]
  have h := val_rung s 0 0 (by decide) (.inl rfl) (by decide)
  simpa [Ieee.signed] using h
def lastL (m : Nat) (e : Int) : Nat := (max (e + m.log2 - 52) (-1074) + 1074).toNat
def keptN (s : Bool) (m : Nat) (e : Int) : Nat := Ieee.Toward.even.cut s (m <<< (e + 1074 - lastL m e).toNat) (lastL m e - (e + 1074)).toNat
theorem kept_le (s : Bool) {m : Nat} {e : Int} (h0 : m ≠ 0) {k : Nat} (h : m * 2 ^ (e + 1074).toNat ≤ 2 ^ (k + lastL m e + (-1074 - e).toNat)) : keptN s m e ≤ 2 ^ k := by
  unfold keptN
  refine cut_le _ _ _ _ ?_
  rw [Nat.shiftLeft_eq]
  generalize hL : lastL m e = L at *
  by_cases h1 : (L : Int) ≤ e + 1074
  · rw [show (L - (e + 1074)).toNat = 0 by omega, Nat.add_zero]
    rw [show (-1074 - e).toNat = 0 by omega, Nat.add_zero, show (e + 1074).toNat = (e + 1074 - L).toNat + L by omega, Nat.pow_add, Nat.pow_add, ← Nat.mul_assoc] at h
    exact Nat.le_of_mul_le_mul_right h (Nat.two_pow_pos L)
  · rw [show (e + 1074 - L).toNat = 0 by omega, Nat.pow_zero, Nat.mul_one]
    by_cases h2 : 0 ≤ e + 1074
    · rw [show (-1074 - e).toNat = 0 by omega, Nat.add_zero] at h
      rw [show k + L = (k + (L - (e + 1074)).toNat) + (e + 1074).toNat by omega, Nat.pow_add (n := (e + 1074).toNat)] at h
      exact Nat.le_of_mul_le_mul_right h (Nat.two_pow_pos _)
    · rw [show (e + 1074).toNat = 0 by omega, Nat.pow_zero, Nat.mul_one] at h
      rwa [show k + (L - (e + 1074)).toNat = k + L + (-1074 - e).toNat by omega]
theorem val_nearest (s : Bool) {m : Nat} {e : Int} (h0 : m ≠ 0) (hE : e + m.log2 ≤ 1000) : val (Ieee.double.nearest s m e) = some (Ieee.signed s (keptN s m e * 2 ^ lastL m e) 0) ∧ keptN s m e ≤ 2 ^ 53 := by
  obtain ⟨eb, ei, el, ef, es⟩ := dE
  have hlt : m < 2 ^ (m.log2 + 1) := Nat.lt_log2_self
  have hge : 2 ^ m.log2 ≤ m := Nat.log2_self_le h0
  have hL : lastL m e = (max (e + m.log2 - 52) (-1074) + 1074).toNat := rfl
  have hk : keptN s m e ≤ 2 ^ 53 := by
    refine kept_le s h0 ?_
    refine Nat.le_trans (Nat.mul_le_mul_right _ (Nat.le_of_lt hlt)) ?_
    rw [← Nat.pow_add]
    exact Nat.pow_le_pow_right (by decide) (by omega)
  refine ⟨?_, hk⟩
  have hlow : lastL m e = 0 ∨ 2 ^ 52 ≤ keptN s m e := by
    by_cases h : e + m.log2 - 52 ≤ -1074
    · left; omega
    · right
      unfold keptN
      refine cut_ge _ _ _ _ ?_
      rw [Nat.shiftLeft_eq]
      refine Nat.le_trans ?_ (Nat.mul_le_mul_right _ hge)
      rw [← Nat.pow_add]
      exact Nat.pow_le_pow_right (by decide) (by omega)
  have hw : Ieee.double.nearest s m e = Ieee.double.word s (lastL m e * 4503599627370496 + keptN s m e) := by
    unfold Ieee.Format.nearest
    rw [if_neg h0]
    simp only [eb, ei, el, ef]
    rw [show (max (e + (m.log2 : Int) - (52 : Nat)) (-1074) - -1074).toNat = lastL m e by omega]
    rw [show (e - max (e + (m.log2 : Int) - (52 : Nat)) (-1074)).toNat = (e + 1074 - lastL m e).toNat by omega]
    rw [show (max (e + (m.log2 : Int) - (52 : Nat)) (-1074) - e).toNat = (lastL m e - (e + 1074)).toNat by omega]
    rw [show Ieee.Toward.even.cut s (m <<< (e + 1074 - lastL m e).toNat) (lastL m e - (e + 1074)).toNat = keptN s m e from rfl]
    rw [Nat.min_eq_left (by omega)]
  rw [hw]
  exact val_rung s _ _ (by omega) (by omega) (by omega)
/-- rounded: no greater than a power of two that the exact number does not pass; the sign stays -/
theorem val_le (s : Bool) {m : Nat} {e : Int} {B : Nat} (hB : B ≤ 2070) (h : m * 2 ^ (e + 1074).toNat ≤ 2 ^ (B + (-1074 - e).toNat)) :
    ∃ n : Nat, val (Ieee.double.nearest s m e) = some (Ieee.signed s n 0) ∧ n ≤ 2 ^ B := by
  by_cases h0 : m = 0
  · subst h0
    exact ⟨0, by rw [val_zero]; simp [Ieee.signed], Nat.zero_le _⟩
  · have hge : 2 ^ m.log2 ≤ m := Nat.log2_self_le h0
    have h1 : 2 ^ (m.log2 + (e + 1074).toNat) ≤ 2 ^ (B + (-1074 - e).toNat) := by
      rw [Nat.pow_add]; exact Nat.le_trans (Nat.mul_le_mul_right _ hge) h
    have h2 := (Nat.pow_le_pow_iff_right (by decide)).1 h1
    obtain ⟨h3, _⟩ := val_nearest s (m := m) (e := e) h0 (by omega)
    have hL : lastL m e = (max (e + m.log2 - 52) (-1074) + 1074).toNat := rfl
    refine ⟨_, h3, ?_⟩
    have h4 := kept_le s (m := m) (e := e) h0 (k := B - lastL m e) (by rwa [show B - lastL m e + lastL m e = B by omega])
    refine Nat.le_trans (Nat.mul_le_mul_right _ h4) ?_
    rw [← Nat.pow_add, show B - lastL m e + lastL m e = B by omega]
    exact Nat.le_refl _
/-- few enough digits: exact -/
theorem val_exact (s : Bool) {m : Nat} {e : Int} (hl : m.log2 ≤ 52) (he : -1074 ≤ e) (hE : e + m.log2 ≤ 1000) : val (Ieee.double.nearest s m e) = some (Ieee.signed s m (e + 1074).toNat) := by
  by_cases h0 : m = 0
  · subst h0; rw [val_zero]; simp [Ieee.signed]
  · rw [(val_nearest s h0 hE).1, sgn_eq s m (e + 1074).toNat]
    congr 2
    have hL : lastL m e = (max (e + m.log2 - 52) (-1074) + 1074).toNat := rfl
    unfold keptN
    rw [show (lastL m e - (e + 1074)).toNat = 0 by omega, cut_zero, Nat.shiftLeft_eq, Nat.mul_assoc, ← Nat.pow_add]
    congr 2
    omega
end Go.Proofs.Ytnonlibekcacgaa.En
