/- Engine, part R: sums, products, quotients, roots and comparisons of finite 64-bit numbers, by what they stand for. No program in sight. -/
import Derived.Test.YtnonlibekcacgaaEngQ
namespace Go.Proofs.Ytnonlibekcacgaa.En
open Go
set_option linter.unusedVariables false
theorem read_some {b : Nat} {x : Int} (h : val b = some x) : ∃ s m e, Ieee.double.read b = .number s m e ∧ -1074 ≤ e ∧ x = Ieee.signed s m (e + 1074).toNat := by
  unfold val at h
  cases hr : Ieee.double.read b with
  | nan s t => rw [hr] at h; simp [dval] at h
  | infinity s => rw [hr] at h; simp [dval] at h
  | number s m e =>
    rw [hr] at h
    refine ⟨s, m, e, rfl, ?_, by simpa [dval] using h.symm⟩
    obtain ⟨eb, ei, el, ef, es⟩ := dE
    unfold Ieee.Format.read at hr
    dsimp only at hr
    rw [el] at hr
    split at hr
    · cases hr; omega
    · split at hr
      · cases hr; omega
      · split at hr <;> cases hr
theorem isnan_val {b : Nat} {x : Int} (h : val b = some x) : isnan .f64 b = false := by
  obtain ⟨s, m, e, hr, _⟩ := read_some h
  have hr' : FloatKind.f64.decode b = .number s m e := hr
  simp [isnan, hr', Ieee.Datum.isNaN]
theorem signed_abs (s : Bool) (m u : Nat) : (Ieee.signed s m u).natAbs = m * 2 ^ u := by
  unfold Ieee.signed
  rw [Nat.shiftLeft_eq]
  cases s
  · exact Int.natAbs_natCast _
  · exact (Int.natAbs_neg _).trans (Int.natAbs_natCast _)
theorem signed_add (s : Bool) (m u v : Nat) : Ieee.signed s m (u + v) = Ieee.signed s m u * ((2 ^ v : Nat) : Int) := by
  unfold Ieee.signed
  rw [Nat.shiftLeft_eq, Nat.shiftLeft_eq, Nat.pow_add, ← Nat.mul_assoc]
  cases s
  · simp
  · simp only [if_true]
    rw [Int.neg_mul, ← Int.natCast_mul]
theorem signed_nonneg (m u : Nat) : 0 ≤ Ieee.signed false m u := Int.natCast_nonneg _
theorem signed_nonpos (m u : Nat) : Ieee.signed true m u ≤ 0 := Int.neg_nonpos_of_nonneg (Int.natCast_nonneg _)
theorem signed_sign {s : Bool} {m u : Nat} (h : 0 ≤ Ieee.signed s m u) : s = false ∨ m = 0 := by
  cases s
  · exact .inl rfl
  · right
    have h1 := signed_nonpos m u
    have h2 : Ieee.signed true m u = 0 := by omega
    have h3 := signed_abs true m u
    rw [h2] at h3
    have h4 := Nat.two_pow_pos u
    rcases Nat.mul_eq_zero.1 h3.symm with h5 | h5
    · exact h5
    · omega
theorem signed_zero (s : Bool) (u : Nat) : Ieee.signed s 0 u = 0 := by cases s <;> simp [Ieee.signed]
/-- the result of a rounding -/
theorem val_le' (s : Bool) {m : Nat} {e : Int} {B : Nat} (hB : B ≤ 2070) (h : m * 2 ^ (e + 1074).toNat ≤ 2 ^ (B + (-1074 - e).toNat)) :
    ∃ z : Int, val (Ieee.double.nearest s m e) = some z ∧ z.natAbs ≤ 2 ^ B ∧ (s = false ∨ m = 0 → 0 ≤ z) ∧ (s = true ∨ m = 0 → z ≤ 0) := by
  by_cases h0 : m = 0
  · subst h0
    exact ⟨0, val_zero _ _, by simp, fun _ => Int.le_refl _, fun _ => Int.le_refl _⟩
  · obtain ⟨n, h1, h2⟩ := val_le s hB h
    refine ⟨_, h1, by rw [signed_abs]; simpa using h2, fun hs => ?_, fun hs => ?_⟩
    · rcases hs with rfl | hs
      · exact signed_nonneg _ _
      · exact absurd hs h0
    · rcases hs with rfl | hs
      · exact signed_nonpos _ _
      · exact absurd hs h0
/-- x and y stand for a and b; the exact result of the operation is kept below 2^B; so is its rounding; its sign stays -/
def Rounds (r : Option Nat) (x : Int) (B : Nat) : Prop := ∃ w z, r = some w ∧ val w = some z ∧ z.natAbs ≤ 2 ^ B ∧ (0 ≤ x → 0 ≤ z) ∧ (x ≤ 0 → z ≤ 0)
theorem sum_rounds {s t : Bool} {m n : Nat} {i j : Int} (hi : -1074 ≤ i) (hj : -1074 ≤ j) {B : Nat} (hB : B ≤ 2070)
    (h : (Ieee.signed s m (i + 1074).toNat + Ieee.signed t n (j + 1074).toNat).natAbs ≤ 2 ^ B) :
    Rounds ((Ieee.Datum.sum (.number s m i) (.number t n j)).map Ieee.double.write) (Ieee.signed s m (i + 1074).toNat + Ieee.signed t n (j + 1074).toNat) B := by
  have e1 : (i + 1074).toNat = (i - min i j).toNat + (min i j + 1074).toNat := by omega
  have e2 : (j + 1074).toNat = (j - min i j).toNat + (min i j + 1074).toNat := by omega
  rw [e1, e2, signed_add, signed_add, ← Int.add_mul] at h ⊢
  generalize hT : Ieee.signed s m (i - min i j).toNat + Ieee.signed t n (j - min i j).toNat = T at *
  have hp := Nat.two_pow_pos (min i j + 1074).toNat
  have hp' : (0 : Int) < ((2 ^ (min i j + 1074).toNat : Nat) : Int) := by omega
  have hs : Ieee.Datum.sum (.number s m i) (.number t n j) = some (.number (if T = 0 then s && t else T < 0) T.natAbs (min i j)) := by
    simp only [Ieee.Datum.sum, hT]
  rw [hs]
  rw [Int.natAbs_mul, Int.natAbs_natCast] at h
  obtain ⟨z, h1, h2, h3, h4⟩ := val_le' (if T = 0 then s && t else T < 0) (m := T.natAbs) (e := min i j) hB (by rwa [show (-1074 - min i j).toNat = 0 by omega, Nat.add_zero])
  refine ⟨_, z, rfl, h1, h2, fun hx => h3 ?_, fun hx => h4 ?_⟩
  · have : 0 ≤ T := by
      by_cases hn : T < 0
      · have := Int.mul_neg_of_neg_of_pos hn hp'
        omega
      · omega
    by_cases hT0 : T = 0
    · right; rw [hT0]; rfl
    · left; rw [if_neg hT0]; exact decide_eq_false (by omega)
  · have : T ≤ 0 := by
      by_cases hn : 0 < T
      · have := Int.mul_pos hn hp'
        omega
      · omega
    by_cases hT0 : T = 0
    · right; rw [hT0]; rfl
    · left; rw [if_neg hT0]; exact decide_eq_true (by omega)
theorem fop_of {op : BinOp} {a b : Nat} {x : Int} {B : Nat} (h : Rounds (floatBits op .f64 a b) x B) : ∃ z, val (fop op .f64 a b) = some z ∧ z.natAbs ≤ 2 ^ B ∧ (0 ≤ x → 0 ≤ z) ∧ (x ≤ 0 → z ≤ 0) := by
  obtain ⟨w, z, hw, h1⟩ := h
  exact ⟨z, by unfold fop; rw [hw]; exact h1⟩
theorem val_add {a b : Nat} {x y : Int} (ha : val a = some x) (hb : val b = some y) {B : Nat} (hB : B ≤ 2070) (h : (x + y).natAbs ≤ 2 ^ B) :
    ∃ z, val (fop .add .f64 a b) = some z ∧ z.natAbs ≤ 2 ^ B ∧ (0 ≤ x + y → 0 ≤ z) ∧ (x + y ≤ 0 → z ≤ 0) := by
  obtain ⟨s, m, i, ra, hi, rfl⟩ := read_some ha
  obtain ⟨t, n, j, rb, hj, rfl⟩ := read_some hb
  refine fop_of ?_
  show Rounds (((Ieee.double.read a).sum (Ieee.double.read b)).map Ieee.double.write) _ B
  rw [ra, rb]
  exact sum_rounds hi hj hB h
theorem signed_not (t : Bool) (n u : Nat) : Ieee.signed (!t) n u = -Ieee.signed t n u := by cases t <;> simp [Ieee.signed]
theorem val_sub {a b : Nat} {x y : Int} (ha : val a = some x) (hb : val b = some y) {B : Nat} (hB : B ≤ 2070) (h : (x - y).natAbs ≤ 2 ^ B) :
    ∃ z, val (fop .sub .f64 a b) = some z ∧ z.natAbs ≤ 2 ^ B ∧ (0 ≤ x - y → 0 ≤ z) ∧ (x - y ≤ 0 → z ≤ 0) := by
  obtain ⟨s, m, i, ra, hi, rfl⟩ := read_some ha
  obtain ⟨t, n, j, rb, hj, rfl⟩ := read_some hb
  refine fop_of ?_
  show Rounds (((Ieee.double.read a).sum (Ieee.double.read b).opposite).map Ieee.double.write) _ B
  rw [ra, rb]
  rw [Int.sub_eq_add_neg, ← signed_not] at h ⊢
  exact sum_rounds hi hj hB h
theorem val_mul {a b : Nat} {x y : Int} (ha : val a = some x) (hb : val b = some y) {B : Nat} (hB : B ≤ 2070) (h : x.natAbs * y.natAbs ≤ 2 ^ (B + 1074)) :
    ∃ z, val (fop .mul .f64 a b) = some z ∧ z.natAbs ≤ 2 ^ B ∧ (0 ≤ x → 0 ≤ y → 0 ≤ z) := by
  obtain ⟨s, m, i, ra, hi, rfl⟩ := read_some ha
  obtain ⟨t, n, j, rb, hj, rfl⟩ := read_some hb
  rw [signed_abs, signed_abs] at h
  have hm : fop .mul .f64 a b = Ieee.double.nearest (s ^^ t) (m * n) (i + j) := by
    unfold fop
    show (((Ieee.double.read a).product (Ieee.double.read b)).map Ieee.double.write).getD _ = _
    rw [ra, rb]
    rfl
  rw [hm]
  obtain ⟨u, hu⟩ : ∃ u, (i + 1074).toNat = u := ⟨_, rfl⟩
  obtain ⟨v, hv⟩ : ∃ v, (j + 1074).toNat = v := ⟨_, rfl⟩
  rw [hu, hv] at h
  obtain ⟨c, hc⟩ : ∃ c : Nat, c = 1074 := ⟨_, rfl⟩
  have h' : m * n * 2 ^ (u + v) ≤ 2 ^ (B + c) := by
    rw [Nat.pow_add (m := u)]
    rw [show m * n * (2 ^ u * 2 ^ v) = m * 2 ^ u * (n * 2 ^ v) by simp only [Nat.mul_left_comm, Nat.mul_assoc], hc]
    exact h
  obtain ⟨z, h1, h2, h3, h4⟩ := val_le' (s ^^ t) (m := m * n) (e := i + j) hB (by
    by_cases huv : c ≤ u + v
    · rw [show (-1074 - (i + j)).toNat = 0 by omega, Nat.add_zero]
      rw [show u + v = (i + j + 1074).toNat + c by omega, Nat.pow_add (n := c), Nat.pow_add (n := c), ← Nat.mul_assoc] at h'
      exact Nat.le_of_mul_le_mul_right h' (Nat.two_pow_pos _)
    · rw [show (i + j + 1074).toNat = 0 by omega, Nat.pow_zero, Nat.mul_one]
      rw [show B + c = B + (-1074 - (i + j)).toNat + (u + v) by omega, Nat.pow_add (n := u + v)] at h'
      exact Nat.le_of_mul_le_mul_right h' (Nat.two_pow_pos _))
  refine ⟨z, h1, h2, fun hx hy => h3 ?_⟩
  rcases signed_sign hx with rfl | rfl
  · rcases signed_sign hy with rfl | rfl
    · exact .inl rfl
    · exact .inr (Nat.mul_zero _)
  · exact .inr (Nat.zero_mul _)
theorem val_quo {a b : Nat} {x y : Int} (ha : val a = some x) (hb : val b = some y) {C : Nat} (hC : C ≤ 900) (hy : y ≠ 0) (h : x.natAbs ≤ y.natAbs * 2 ^ C) :
    ∃ z, val (fop .quo .f64 a b) = some z ∧ z.natAbs ≤ 2 ^ (C + 1074) ∧ (0 ≤ x → 0 ≤ y → 0 ≤ z) := by
  obtain ⟨s, m, i, ra, hi, rfl⟩ := read_some ha
  obtain ⟨t, n, j, rb, hj, rfl⟩ := read_some hb
  rw [signed_abs, signed_abs] at h
  have hn : n ≠ 0 := fun e => hy (by rw [e, signed_zero])
  have hq : fop .quo .f64 a b = Ieee.double.nearest (s ^^ t) (2 * ((m <<< (54 + n.log2 - m.log2)) / n) + ((m <<< (54 + n.log2 - m.log2)) % n != 0).toNat) (i - j - (54 + n.log2 - m.log2 : Nat) - 1) := by
    unfold fop
    show (((Ieee.double.read a).quotient 54 (Ieee.double.read b)).map Ieee.double.write).getD _ = _
    rw [ra, rb]
    simp only [Ieee.Datum.quotient, if_neg hn]
    rfl
  rw [hq]
  generalize hmore : 54 + n.log2 - m.log2 = more
  by_cases hm : m = 0
  · subst hm
    simp only [Nat.zero_shiftLeft, Nat.zero_div, Nat.zero_mod]
    exact ⟨0, val_zero _ _, by simp, fun _ _ => Int.le_refl _⟩
  have hn0 : 0 < n := Nat.pos_of_ne_zero hn
  have h1 : 2 ^ m.log2 ≤ m := Nat.log2_self_le hm
  have h2 : n < 2 ^ (n.log2 + 1) := Nat.lt_log2_self
  have h3 : m.log2 + (i + 1074).toNat < n.log2 + 1 + (j + 1074).toNat + C := by
    refine (Nat.pow_lt_pow_iff_right (a := 2) (by decide)).1 ?_
    rw [Nat.pow_add, Nat.pow_add, Nat.pow_add]
    refine Nat.lt_of_le_of_lt (Nat.le_trans (Nat.mul_le_mul_right _ h1) h) ?_
    exact Nat.mul_lt_mul_of_pos_right (Nat.mul_lt_mul_of_pos_right h2 (Nat.two_pow_pos _)) (Nat.two_pow_pos _)
  obtain ⟨T, hT⟩ : ∃ T : Nat, (T : Int) = more + (j - i) + C := ⟨(more + (j - i) + C).toNat, by omega⟩
  have hdiv : m <<< more ≤ n * 2 ^ T := by
    rw [Nat.shiftLeft_eq]
    have h4 : m * 2 ^ more * 2 ^ (i + 1074).toNat ≤ n * 2 ^ T * 2 ^ (i + 1074).toNat := by
      rw [Nat.mul_assoc m, Nat.mul_comm (2 ^ more), ← Nat.mul_assoc m]
      refine Nat.le_trans (Nat.mul_le_mul_right _ h) ?_
      rw [Nat.mul_assoc, Nat.mul_assoc, Nat.mul_assoc, ← Nat.pow_add, ← Nat.pow_add, ← Nat.pow_add]
      exact Nat.mul_le_mul_left _ (Nat.pow_le_pow_right (by decide) (by omega))
    exact Nat.le_of_mul_le_mul_right h4 (Nat.two_pow_pos _)
  have hq2 : 2 * ((m <<< more) / n) + ((m <<< more) % n != 0).toNat ≤ 2 ^ (T + 1) := by
    have hpT : 2 ^ (T + 1) = 2 * 2 ^ T := by rw [Nat.pow_succ, Nat.mul_comm]
    rw [hpT]
    generalize m <<< more = d at *
    rcases Nat.lt_or_ge d (n * 2 ^ T) with hl | hl
    · have h5 : d / n < 2 ^ T := Nat.div_lt_of_lt_mul hl
      have h6 : ∀ b : Bool, b.toNat ≤ 1 := fun b => by cases b <;> decide
      have := h6 (d % n != 0)
      omega
    · have e : d = n * 2 ^ T := Nat.le_antisymm hdiv hl
      subst e
      rw [Nat.mul_div_cancel_left _ hn0, Nat.mul_mod_right]
      simp
  obtain ⟨z, g1, g2, g3, g4⟩ := val_le' (s ^^ t) (m := 2 * ((m <<< more) / n) + ((m <<< more) % n != 0).toNat) (e := i - j - (more : Nat) - 1) (B := C + 1074) (by omega) (by
    refine Nat.le_trans (Nat.mul_le_mul_right _ hq2) ?_
    rw [← Nat.pow_add]
    exact Nat.pow_le_pow_right (by decide) (by omega))
  refine ⟨z, g1, g2, fun hx hy' => g3 (.inl ?_)⟩
  rcases signed_sign hx with rfl | e
  · rcases signed_sign hy' with rfl | e
    · rfl
    · exact absurd e hn
  · exact absurd e hm
theorem rootFrom_le (n : Nat) : ∀ (todo root : Nat), root * root ≤ n → Ieee.Datum.rootFrom n todo root * Ieee.Datum.rootFrom n todo root ≤ n
  | 0, root, h => h
  | todo + 1, root, h => by
    unfold Ieee.Datum.rootFrom
    dsimp only
    split
    · rename_i h1; exact rootFrom_le n todo _ h1
    · exact rootFrom_le n todo _ h
/-- the root of a number that is not below 0 and at most 2^(2K) is not below 0 and at most 2^(K+1) -/
theorem val_sqrt {a : Nat} {x : Int} (ha : val a = some x) (hx : 0 ≤ x) {K : Nat} (hK : K ≤ 400) (h : x.natAbs ≤ 2 ^ (2 * K + 1074)) :
    ∃ r z, FloatKind.f64.format.sqrt a = some r ∧ val r = some z ∧ z.natAbs ≤ 2 ^ (K + 1 + 1074) ∧ 0 ≤ z := by
  obtain ⟨s, m, i, ra, hi, rfl⟩ := read_some ha
  rw [signed_abs] at h
  suffices hh : ∃ d, (Ieee.Datum.number s m i).root 54 = some d ∧ ∃ z, val (Ieee.double.write d) = some z ∧ z.natAbs ≤ 2 ^ (K + 1 + 1074) ∧ 0 ≤ z by
    obtain ⟨d, h1, z, h2⟩ := hh
    refine ⟨_, z, ?_, h2⟩
    show ((Ieee.double.read a).root 54).map Ieee.double.write = _
    rw [ra, h1]; rfl
  by_cases hm : m = 0
  · subst hm
    exact ⟨_, rfl, 0, val_zero _ _, by simp, Int.le_refl _⟩
  · have hs : s = false := by
      rcases signed_sign hx with h1 | h1
      · exact h1
      · exact absurd h1 hm
    subst hs
    obtain ⟨more, hmore, hpar⟩ : ∃ more : Nat, more = 2 * 54 - m.log2 + ((i - (2 * 54 - m.log2 : Nat)) % 2).toNat ∧ (i - (more : Int)) % 2 = 0 := ⟨_, rfl, by omega⟩
    have hroot : (Ieee.Datum.number false m i).root 54 = some (.number false (2 * Ieee.Datum.rootFrom (m <<< more) ((m <<< more).log2 / 2 + 1) 0 + (Ieee.Datum.rootFrom (m <<< more) ((m <<< more).log2 / 2 + 1) 0 * Ieee.Datum.rootFrom (m <<< more) ((m <<< more).log2 / 2 + 1) 0 != m <<< more).toNat) ((i - (more : Int)) / 2 - 1)) := by
      rw [hmore]
      simp only [Ieee.Datum.root, if_neg hm, Bool.false_eq_true, if_false]
    refine ⟨_, hroot, ?_⟩
    have hw := rootFrom_le (m <<< more) ((m <<< more).log2 / 2 + 1) 0 (Nat.zero_le _)
    generalize Ieee.Datum.rootFrom (m <<< more) ((m <<< more).log2 / 2 + 1) 0 = w at *
    have hb : ∀ b : Bool, b.toNat ≤ 1 := fun b => by cases b <;> decide
    have hst := hb (w * w != m <<< more)
    generalize (w * w != m <<< more).toNat = st at *
    obtain ⟨p, hp⟩ : ∃ p : Int, i - (more : Int) = 2 * p := ⟨(i - more) / 2, by omega⟩
    have hmK : m.log2 + (i + 1074).toNat ≤ 2 * K + 1074 := by
      refine (Nat.pow_le_pow_iff_right (a := 2) (by decide)).1 ?_
      rw [Nat.pow_add]
      exact Nat.le_trans (Nat.mul_le_mul_right _ (Nat.log2_self_le hm)) h
    obtain ⟨T, hT⟩ : ∃ T : Nat, (T : Int) = K - p := ⟨(K - p).toNat, by omega⟩
    have hwT : w * w ≤ 2 ^ T * 2 ^ T := by
      refine Nat.le_trans hw ?_
      rw [Nat.shiftLeft_eq, ← Nat.pow_add]
      have h4 : m * 2 ^ more * 2 ^ (i + 1074).toNat ≤ 2 ^ (T + T) * 2 ^ (i + 1074).toNat := by
        rw [Nat.mul_assoc, Nat.mul_comm (2 ^ more), ← Nat.mul_assoc]
        refine Nat.le_trans (Nat.mul_le_mul_right _ h) ?_
        rw [← Nat.pow_add, ← Nat.pow_add]
        exact Nat.pow_le_pow_right (by decide) (by omega)
      exact Nat.le_of_mul_le_mul_right h4 (Nat.two_pow_pos _)
    have hwT' : w ≤ 2 ^ T := by
      rcases Nat.lt_or_ge (2 ^ T) w with h5 | h5
      · have := Nat.mul_lt_mul'' h5 h5; omega
      · exact h5
    obtain ⟨z, g1, g2, g3, g4⟩ := val_le' false (m := 2 * w + st) (e := (i - (more : Int)) / 2 - 1) (B := K + 1 + 1074) (by omega) (by
      have h6 : 2 * w + st ≤ 2 ^ (T + 2) := by
        have : 2 ^ (T + 2) = 4 * 2 ^ T := by rw [Nat.pow_add, Nat.mul_comm]
        have := Nat.two_pow_pos T
        omega
      refine Nat.le_trans (Nat.mul_le_mul_right _ h6) ?_
      rw [← Nat.pow_add]
      exact Nat.pow_le_pow_right (by decide) (by omega))
    exact ⟨z, g1, g2, g3 (.inl rfl)⟩
end Go.Proofs.Ytnonlibekcacgaa.En
