/- How far a rounding goes; the sine's value in 32 bits is at most 1; a particle's place is finite. -/
import Derived.Test.YtnonlibekcacgaaRecs
import Derived.Test.YtnonlibekcacgaaRows
namespace Go.Proofs.Ytnonlibekcacgaa.En
open Go
set_option linter.unusedVariables false
set_option maxRecDepth 100000
/-! ### how far a rounding goes -/
theorem cut_err (s : Bool) (n drop : Nat) : 2 * (Ieee.Toward.even.cut s n drop * 2 ^ drop) ≤ 2 * n + 2 ^ drop ∧ 2 * n ≤ 2 * (Ieee.Toward.even.cut s n drop * 2 ^ drop) + 2 ^ drop := by
  unfold Ieee.Toward.cut
  dsimp only
  by_cases hd : drop ≤ n.log2 + 2
  · rw [Nat.min_eq_left hd, Nat.one_shiftLeft]
    have hg := Nat.two_pow_pos drop
    have h1 := Nat.div_add_mod n (2 ^ drop)
    have h2 := Nat.mod_lt n hg
    generalize 2 ^ drop = g at *
    generalize n / g = q at *
    generalize n % g = r at *
    rw [Nat.mul_comm] at h1
    cases hm : (decide (g < 2 * r) || (g == 2 * r && q % 2 == 1)) with
    | true =>
      have h3 : g ≤ 2 * r := by
        simp only [Bool.or_eq_true, decide_eq_true_eq, Bool.and_eq_true, beq_iff_eq] at hm
        omega
      simp only [Bool.toNat_true, Nat.add_mul, Nat.one_mul]
      omega
    | false =>
      have h3 : 2 * r ≤ g := by
        simp only [Bool.or_eq_false_iff, decide_eq_false_iff_not] at hm
        omega
      simp only [Bool.toNat_false, Nat.add_zero]
      omega
  · rw [Nat.min_eq_right (by omega), Nat.one_shiftLeft]
    have hlt : n < 2 ^ (n.log2 + 1) := Nat.lt_log2_self
    have e1 : 2 ^ (n.log2 + 2) = 2 * 2 ^ (n.log2 + 1) := by rw [Nat.pow_succ 2 (n.log2 + 1), Nat.mul_comm]
    have e2 : 2 ^ (n.log2 + 2) ≤ 2 ^ drop := Nat.pow_le_pow_right (by decide) (by omega)
    have e3 : n / 2 ^ (n.log2 + 2) = 0 := Nat.div_eq_of_lt (by omega)
    have e4 : n % 2 ^ (n.log2 + 2) = n := Nat.mod_eq_of_lt (by omega)
    rw [e3, e4]
    have e5 : (decide (2 ^ (n.log2 + 2) < 2 * n) || (2 ^ (n.log2 + 2) == 2 * n && 0 % 2 == 1)) = false := by simp; omega
    rw [e5]
    simp only [Bool.toNat_false, Nat.add_zero, Nat.zero_mul, Nat.mul_zero]
    omega
/-- rounded: at most half of the last digit away -/
theorem nearest_err (s : Bool) {m : Nat} {e : Int} {B : Nat} (hE : e + m.log2 ≤ 1000) (hB : 53 ≤ B) (h : m * P2 (e + 1074).toNat < P2 (B + (-1074 - e).toNat)) :
    ∃ n : Nat, val (Ieee.double.nearest s m e) = some (Ieee.signed s n 0) ∧ 2 * (n * P2 (-1074 - e).toNat) ≤ 2 * (m * P2 (e + 1074).toNat) + P2 (B - 53 + (-1074 - e).toNat) ∧ 2 * (m * P2 (e + 1074).toNat) ≤ 2 * (n * P2 (-1074 - e).toNat) + P2 (B - 53 + (-1074 - e).toNat) := by
  by_cases h0 : m = 0
  · subst h0
    exact ⟨0, by rw [val_zero]; simp [Ieee.signed], by simp, by simp⟩
  · refine ⟨_, (val_nearest s h0 hE).1, ?_⟩
    have hL : lastL m e = (max (e + m.log2 - 52) (-1074) + 1074).toNat := rfl
    have hc := cut_err s (m <<< (e + 1074 - lastL m e).toNat) (lastL m e - (e + 1074)).toNat
    rw [show Ieee.Toward.even.cut s (m <<< (e + 1074 - lastL m e).toNat) (lastL m e - (e + 1074)).toNat = keptN s m e from rfl, Nat.shiftLeft_eq, ← P2_def, ← P2_def] at hc
    rw [← P2_def (lastL m e)]
    have hlog : m.log2 + (e + 1074).toNat < B + (-1074 - e).toNat := by
      have h1 : P2 (m.log2 + (e + 1074).toNat) < P2 (B + (-1074 - e).toNat) := by
        rw [P2_add]
        refine Nat.lt_of_le_of_lt (Nat.mul_le_mul_right _ ?_) h
        rw [P2_def]; exact Nat.log2_self_le h0
      rw [P2_def, P2_def] at h1
      exact (Nat.pow_lt_pow_iff_right (a := 2) (by decide)).1 h1
    obtain ⟨f, hf⟩ : ∃ f : Nat, (lastL m e - (e + 1074)).toNat + f = lastL m e + (-1074 - e).toNat ∧ (e + 1074 - lastL m e).toNat + f = (e + 1074).toNat := ⟨lastL m e + (-1074 - e).toNat - (lastL m e - (e + 1074)).toNat, by omega, by omega⟩
    have hp : P2 (lastL m e + (-1074 - e).toNat) ≤ P2 (B - 53 + (-1074 - e).toNat) := P2_le (by omega)
    have k1 := Nat.mul_le_mul_right (P2 f) hc.1
    have k2 := Nat.mul_le_mul_right (P2 f) hc.2
    have e1 : 2 * (keptN s m e * P2 (lastL m e - (e + 1074)).toNat) * P2 f = 2 * (keptN s m e * P2 (lastL m e) * P2 (-1074 - e).toNat) := by
      rw [Nat.mul_assoc 2, Nat.mul_assoc (keptN s m e), ← P2_add, hf.1, P2_add, ← Nat.mul_assoc (keptN s m e)]
    have e2 : 2 * (m * P2 (e + 1074 - lastL m e).toNat) * P2 f = 2 * (m * P2 (e + 1074).toNat) := by
      rw [Nat.mul_assoc 2, Nat.mul_assoc m, ← P2_add, hf.2]
    have e3 : P2 (lastL m e - (e + 1074)).toNat * P2 f = P2 (lastL m e + (-1074 - e).toNat) := by rw [← P2_add, hf.1]
    rw [e1, Nat.add_mul, e2, e3] at k1
    rw [e2, Nat.add_mul, e1, e3] at k2
    exact ⟨by omega, by omega⟩
/-- what stands for a number that is not below 0 -/
theorem read_nat {b X : Nat} (h : val b = some (X : Int)) : ∃ s m e, Ieee.double.read b = .number s m e ∧ -1074 ≤ e ∧ X = m * P2 (e + 1074).toNat ∧ (s = false ∨ m = 0) := by
  obtain ⟨s, m, e, hr, he, hx⟩ := read_some h
  refine ⟨s, m, e, hr, he, ?_, signed_sign (u := (e + 1074).toNat) (by rw [← hx]; exact Int.natCast_nonneg _)⟩
  have := congrArg Int.natAbs hx
  rw [signed_abs, Int.natAbs_natCast, ← P2_def] at this
  exact this
theorem bound_log {m B : Nat} {u c : Nat} (h0 : m ≠ 0) (h : m * P2 u < P2 (B + c)) : m.log2 + u < B + c := by
  have h1 : P2 (m.log2 + u) < P2 (B + c) := by
    rw [P2_add]
    refine Nat.lt_of_le_of_lt (Nat.mul_le_mul_right _ ?_) h
    rw [P2_def]; exact Nat.log2_self_le h0
  rw [P2_def, P2_def] at h1
  exact (Nat.pow_lt_pow_iff_right (a := 2) (by decide)).1 h1
theorem signed_val {s : Bool} {n : Nat} (h : s = false) : Ieee.signed s n 0 = (n : Int) := by subst h; rw [sgn0]; rfl
theorem mulN {a b X Y : Nat} (ha : val a = some (X : Int)) (hb : val b = some (Y : Int)) {B : Nat} (hB : 53 ≤ B ∧ B ≤ 2000) (h : X * Y < P2 (B + 1074)) :
    ∃ Z : Nat, val (fop .mul .f64 a b) = some (Z : Int) ∧ 2 * (Z * P2 1074) ≤ 2 * (X * Y) + P2 (B - 53) * P2 1074 ∧ 2 * (X * Y) ≤ 2 * (Z * P2 1074) + P2 (B - 53) * P2 1074 := by
  obtain ⟨s, m, i, ra, hi, hX, hs⟩ := read_nat ha
  obtain ⟨t, n, j, rb, hj, hY, ht⟩ := read_nat hb
  have hm : fop .mul .f64 a b = Ieee.double.nearest (s ^^ t) (m * n) (i + j) := by
    unfold fop
    show (((Ieee.double.read a).product (Ieee.double.read b)).map Ieee.double.write).getD _ = _
    rw [ra, rb]; rfl
  rw [hm]
  by_cases h0 : m * n = 0
  · rw [h0]
    have hz : X * Y = 0 := by
      rw [hX, hY]
      rcases Nat.mul_eq_zero.1 h0 with h1 | h1 <;> simp [h1]
    exact ⟨0, val_zero _ _, by simp, by rw [hz]; simp⟩
  · have hsf : (s ^^ t) = false := by
      rcases hs with rfl | h1
      · rcases ht with rfl | h1
        · rfl
        · rw [h1, Nat.mul_zero] at h0; exact absurd rfl h0
      · rw [h1, Nat.zero_mul] at h0; exact absurd rfl h0
    have hXY : X * Y = m * n * P2 ((i + 1074).toNat + (j + 1074).toNat) := by
      rw [hX, hY, P2_add]; simp only [Nat.mul_left_comm, Nat.mul_assoc]
    have hk : m * n * P2 (i + j + 1074).toNat * P2 1074 = X * Y * P2 (-1074 - (i + j)).toNat := by
      rw [hXY, Nat.mul_assoc (m * n), Nat.mul_assoc (m * n), ← P2_add, ← P2_add]
      congr 2
      omega
    have hlt : m * n * P2 (i + j + 1074).toNat < P2 (B + (-1074 - (i + j)).toNat) := by
      refine Nat.lt_of_mul_lt_mul_right (a := P2 1074) ?_
      rw [hk, ← P2_add, show B + (-1074 - (i + j)).toNat + 1074 = B + 1074 + (-1074 - (i + j)).toNat by omega, P2_add]
      exact Nat.mul_lt_mul_of_pos_right h (P2_pos _)
    have hl := bound_log h0 hlt
    obtain ⟨Z, z1, z2, z3⟩ := nearest_err (s ^^ t) (m := m * n) (e := i + j) (B := B) (by omega) hB.1 hlt
    rw [signed_val hsf] at z1
    refine ⟨Z, z1, ?_, ?_⟩
    · have k := Nat.mul_le_mul_right (P2 1074) z2
      rw [Nat.add_mul, Nat.mul_assoc 2 (m * n * P2 (i + j + 1074).toNat), hk] at k
      refine Nat.le_of_mul_le_mul_right (c := P2 (-1074 - (i + j)).toNat) ?_ (P2_pos _)
      rw [P2_add] at k
      rw [Nat.add_mul]
      have e1 : 2 * (Z * P2 (-1074 - (i + j)).toNat) * P2 1074 = 2 * (Z * P2 1074) * P2 (-1074 - (i + j)).toNat := by simp only [Nat.mul_comm, Nat.mul_left_comm, Nat.mul_assoc]
      have e2 : P2 (B - 53) * P2 (-1074 - (i + j)).toNat * P2 1074 = P2 (B - 53) * P2 1074 * P2 (-1074 - (i + j)).toNat := by simp only [Nat.mul_comm, Nat.mul_assoc]
      rw [e1, e2, ← Nat.mul_assoc 2 (X * Y)] at k
      exact k
    · have k := Nat.mul_le_mul_right (P2 1074) z3
      rw [Nat.add_mul, Nat.mul_assoc 2 (m * n * P2 (i + j + 1074).toNat), hk] at k
      refine Nat.le_of_mul_le_mul_right (c := P2 (-1074 - (i + j)).toNat) ?_ (P2_pos _)
      rw [P2_add] at k
      rw [Nat.add_mul]
      have e1 : 2 * (Z * P2 (-1074 - (i + j)).toNat) * P2 1074 = 2 * (Z * P2 1074) * P2 (-1074 - (i + j)).toNat := by simp only [Nat.mul_comm, Nat.mul_left_comm, Nat.mul_assoc]
      have e2 : P2 (B - 53) * P2 (-1074 - (i + j)).toNat * P2 1074 = P2 (B - 53) * P2 1074 * P2 (-1074 - (i + j)).toNat := by simp only [Nat.mul_comm, Nat.mul_assoc]
      rw [e1, e2, ← Nat.mul_assoc 2 (X * Y)] at k
      exact k
/-- a difference that is not below 0 -/
theorem subN {a b X Y : Nat} (ha : val a = some (X : Int)) (hb : val b = some (Y : Int)) {B : Nat} (hB : 53 ≤ B ∧ B ≤ 2000) (hle : Y ≤ X) (h : X - Y < P2 B) :
    ∃ Z : Nat, val (fop .sub .f64 a b) = some (Z : Int) ∧ 2 * Z ≤ 2 * (X - Y) + P2 (B - 53) ∧ 2 * (X - Y) ≤ 2 * Z + P2 (B - 53) := by
  obtain ⟨s, m, i, ra, hi, hX⟩ := read_some ha
  obtain ⟨t, n, j, rb, hj, hY⟩ := read_some hb
  have e1 : (i + 1074).toNat = (i - min i j).toNat + (min i j + 1074).toNat := by omega
  have e2 : (j + 1074).toNat = (j - min i j).toNat + (min i j + 1074).toNat := by omega
  rw [e1, signed_P] at hX
  rw [e2, signed_P] at hY
  have hfop : fop .sub .f64 a b = Ieee.double.nearest (if Ieee.signed s m (i - min i j).toNat + Ieee.signed (!t) n (j - min i j).toNat = 0 then s && !t else Ieee.signed s m (i - min i j).toNat + Ieee.signed (!t) n (j - min i j).toNat < 0) (Ieee.signed s m (i - min i j).toNat + Ieee.signed (!t) n (j - min i j).toNat).natAbs (min i j) := by
    unfold fop
    show (((Ieee.double.read a).sum (Ieee.double.read b).opposite).map Ieee.double.write).getD _ = _
    rw [ra, rb]; rfl
  rw [hfop, signed_not]
  generalize Ieee.signed s m (i - min i j).toNat = P at *
  generalize Ieee.signed t n (j - min i j).toNat = Q at *
  have hp := P2_pos (min i j + 1074).toNat
  have hPQ : (((X - Y : Nat)) : Int) = (P + -Q) * ((P2 (min i j + 1074).toNat : Nat) : Int) := by rw [Int.add_mul, Int.neg_mul]; omega
  generalize P + -Q = T at *
  have hT : 0 ≤ T := by
    by_cases h9 : 0 ≤ T
    · exact h9
    · have := Int.mul_neg_of_neg_of_pos (show T < 0 by omega) (show (0 : Int) < ((P2 (min i j + 1074).toNat : Nat) : Int) by omega)
      omega
  obtain ⟨k, rfl⟩ : ∃ k : Nat, T = (k : Int) := ⟨T.toNat, by omega⟩
  rw [← Int.natCast_mul] at hPQ
  have hk : X - Y = k * P2 (min i j + 1074).toNat := by omega
  by_cases h0 : k = 0
  · subst h0
    exact ⟨0, val_zero _ _, by omega, by omega⟩
  · have hs : (if (k : Int) = 0 then s && !t else decide ((k : Int) < 0)) = false := by rw [if_neg (by omega)]; exact decide_eq_false (by omega)
    rw [hs, Int.natAbs_natCast]
    have hc : (-1074 - min i j).toNat = 0 := by omega
    have hlt : k * P2 (min i j + 1074).toNat < P2 (B + (-1074 - min i j).toNat) := by rw [hc, Nat.add_zero, ← hk]; exact h
    have hl := bound_log h0 hlt
    obtain ⟨Z, z1, z2, z3⟩ := nearest_err false (m := k) (e := min i j) (B := B) (by omega) hB.1 hlt
    rw [signed_val rfl] at z1
    rw [hc, P2_def 0, Nat.pow_zero, Nat.mul_one, Nat.add_zero, ← hk] at z2 z3
    exact ⟨Z, z1, z2, z3⟩
/-- a quotient by a whole number -/
theorem quoN {a b X c : Nat} (ha : val a = some (X : Int)) (hb : val b = some ((c * P2 1074 : Nat) : Int)) (hc : 1 ≤ c) {B : Nat} (hB : 53 ≤ B ∧ B ≤ 1900) (h : X < P2 B) :
    ∃ Z : Nat, val (fop .quo .f64 a b) = some (Z : Int) ∧ Z * c ≤ X + c * P2 (B - 52) ∧ X ≤ Z * c + c * P2 (B - 52) := by
  obtain ⟨s, m, i, ra, hi, hX, hs⟩ := read_nat ha
  obtain ⟨t, n, j, rb, hj, hY, ht⟩ := read_nat hb
  have hn : n ≠ 0 := fun h9 => by
    rw [h9, Nat.zero_mul] at hY
    have h8 := P2_pos 1074
    rcases Nat.mul_eq_zero.1 hY with h7 | h7 <;> omega
  have htf : t = false := by
    rcases ht with h9 | h9
    · exact h9
    · exact absurd h9 hn
  have hq : fop .quo .f64 a b = Ieee.double.nearest (s ^^ t) (2 * ((m <<< (54 + n.log2 - m.log2)) / n) + ((m <<< (54 + n.log2 - m.log2)) % n != 0).toNat) (i - j - (54 + n.log2 - m.log2 : Nat) - 1) := by
    unfold fop
    show (((Ieee.double.read a).quotient 54 (Ieee.double.read b)).map Ieee.double.write).getD _ = _
    rw [ra, rb]
    simp only [Ieee.Datum.quotient, if_neg hn]
    rfl
  rw [hq]
  by_cases hm : m = 0
  · subst hm
    simp only [Nat.zero_shiftLeft, Nat.zero_div, Nat.zero_mod]
    rw [Nat.zero_mul] at hX
    exact ⟨0, val_zero _ _, by omega, by rw [hX]; exact Nat.zero_le _⟩
  have hsf : (s ^^ t) = false := by
    rcases hs with h9 | h9
    · rw [h9, htf]; rfl
    · exact absurd h9 hm
  obtain ⟨more, hmore⟩ : ∃ more, 54 + n.log2 - m.log2 = more := ⟨_, rfl⟩
  rw [hmore]
  have hd : m <<< more = m * P2 more := by rw [Nat.shiftLeft_eq, P2_def]
  rw [hd]
  have hdn : P2 53 * n ≤ m * P2 more := by
    have h1 : P2 m.log2 ≤ m := by rw [P2_def]; exact Nat.log2_self_le hm
    have h2 : n ≤ P2 (n.log2 + 1) := by rw [P2_def]; exact Nat.le_of_lt Nat.lt_log2_self
    refine Nat.le_trans (Nat.mul_le_mul_left _ h2) (Nat.le_trans ?_ (Nat.mul_le_mul_right _ h1))
    rw [← P2_add, ← P2_add]
    exact P2_le (by omega)
  have hM : ∃ M, 2 * ((m * P2 more) / n) + ((m * P2 more) % n != 0).toNat = M ∧ M * n ≤ 2 * (m * P2 more) + n ∧ 2 * (m * P2 more) ≤ M * n + n ∧ P2 54 ≤ M := by
    refine ⟨_, rfl, ?_⟩
    generalize hD : m * P2 more = D at *
    have g1 := Nat.div_add_mod D n
    have g2 := Nat.mod_lt D (Nat.pos_of_ne_zero hn)
    have g3 : P2 53 ≤ D / n := (Nat.le_div_iff_mul_le (Nat.pos_of_ne_zero hn)).2 hdn
    have g4 : P2 54 = 2 * P2 53 := P2_succ 53
    generalize hqd : D / n = q at *
    generalize D % n = r at *
    by_cases hr : r = 0
    · subst hr
      have e1 : ((0 : Nat) != 0).toNat = 0 := rfl
      rw [e1, Nat.add_zero, Nat.mul_assoc, Nat.mul_comm q]
      omega
    · have e1 : (r != 0).toNat = 1 := by
        have : (r != 0) = true := by simp [hr]
        rw [this]; rfl
      rw [e1, Nat.add_mul, Nat.one_mul, Nat.mul_assoc, Nat.mul_comm q]
      omega
  obtain ⟨M, hMe, M1, M2, M3⟩ := hM
  rw [hMe]
  obtain ⟨e, he⟩ : ∃ e : Int, i - j - (more : Nat) - 1 = e := ⟨_, rfl⟩
  rw [he]
  have hA : 2 * (m * P2 more) * P2 (e + 1074).toNat * P2 (j + 1074).toNat = X * P2 1074 * P2 (-1074 - e).toNat := by
    have e1 : 2 * (m * P2 more) = m * P2 (more + 1) := by rw [P2_succ]; simp only [Nat.mul_left_comm]
    rw [e1, hX, Nat.mul_assoc m, Nat.mul_assoc m, Nat.mul_assoc m, Nat.mul_assoc m, ← P2_add, ← P2_add, ← P2_add, ← P2_add]
    congr 2
    omega
  generalize hv : P2 (e + 1074).toNat = v at *
  generalize hw : P2 (-1074 - e).toNat = w at *
  generalize hJ : P2 (j + 1074).toNat = J at *
  have hp := P2_pos 1074
  have hvp : 0 < v := by rw [← hv]; exact P2_pos _
  have hwp : 0 < w := by rw [← hw]; exact P2_pos _
  have C1 : M * v * c ≤ X * w + c * v := by
    refine Nat.le_of_mul_le_mul_right (c := P2 1074) ?_ hp
    have k := Nat.mul_le_mul_right (v * J) M1
    rw [Nat.add_mul] at k
    have e1 : M * n * (v * J) = M * v * c * P2 1074 := by rw [show M * n * (v * J) = M * v * (n * J) by simp only [Nat.mul_comm, Nat.mul_left_comm], ← hY, ← Nat.mul_assoc]
    have e2 : 2 * (m * P2 more) * (v * J) = X * w * P2 1074 := by rw [← Nat.mul_assoc, hA]; simp only [Nat.mul_comm, Nat.mul_left_comm, Nat.mul_assoc]
    have e3 : n * (v * J) = c * v * P2 1074 := by rw [show n * (v * J) = v * (n * J) by simp only [Nat.mul_left_comm], ← hY]; simp only [Nat.mul_left_comm, Nat.mul_assoc]
    rw [e1, e2, e3, ← Nat.add_mul] at k
    exact k
  have C2 : X * w ≤ M * v * c + c * v := by
    refine Nat.le_of_mul_le_mul_right (c := P2 1074) ?_ hp
    have k := Nat.mul_le_mul_right (v * J) M2
    rw [Nat.add_mul] at k
    have e1 : M * n * (v * J) = M * v * c * P2 1074 := by rw [show M * n * (v * J) = M * v * (n * J) by simp only [Nat.mul_comm, Nat.mul_left_comm], ← hY, ← Nat.mul_assoc]
    have e2 : 2 * (m * P2 more) * (v * J) = X * w * P2 1074 := by rw [← Nat.mul_assoc, hA]; simp only [Nat.mul_comm, Nat.mul_left_comm, Nat.mul_assoc]
    have e3 : n * (v * J) = c * v * P2 1074 := by rw [show n * (v * J) = v * (n * J) by simp only [Nat.mul_left_comm], ← hY]; simp only [Nat.mul_left_comm, Nat.mul_assoc]
    rw [e1, e2, e3, ← Nat.add_mul] at k
    exact k
  have hM2 : 2 ≤ M := Nat.le_trans (by rw [P2_def]; decide) M3
  have hMv : M * v < P2 (B + 1) * w := by
    have h1 : c * v * 2 ≤ M * v * c := by
      rw [show c * v * 2 = 2 * v * c by rw [Nat.mul_comm (c * v) 2, Nat.mul_comm c v, ← Nat.mul_assoc]]
      exact Nat.mul_le_mul_right _ (Nat.mul_le_mul_right _ hM2)
    have h2 : M * v ≤ M * v * c := Nat.le_mul_of_pos_right _ hc
    have h3 : X * w < P2 B * w := Nat.mul_lt_mul_of_pos_right h hwp
    rw [P2_succ, Nat.mul_assoc]
    omega
  have hlt : M * P2 (e + 1074).toNat < P2 (B + 1 + (-1074 - e).toNat) := by rw [P2_add, hv, hw]; exact hMv
  have hM0 : M ≠ 0 := by omega
  have hl := bound_log hM0 hlt
  have hl54 : 54 ≤ M.log2 := (Nat.le_log2 hM0).2 (by rw [← P2_def]; exact M3)
  obtain ⟨Z, z1, z2, z3⟩ := nearest_err (s ^^ t) (m := M) (e := e) (B := B + 1) (by omega) (by omega) hlt
  rw [signed_val hsf] at z1
  rw [P2_add, hv, hw, show B + 1 - 53 = B - 52 by omega] at z2 z3
  have hv2 : 2 * v ≤ P2 (B - 52) * w := by
    rw [← hv, ← hw, ← P2_succ, ← P2_add]
    exact P2_le (by omega)
  refine ⟨Z, z1, ?_, ?_⟩
  · refine Nat.le_of_mul_le_mul_right (c := w) ?_ hwp
    have k1 := Nat.mul_le_mul_right c z2
    have k2 := Nat.mul_le_mul_right c hv2
    have e1 : 2 * (Z * w) * c = 2 * (Z * c * w) := by simp only [Nat.mul_comm, Nat.mul_left_comm, Nat.mul_assoc]
    have e2 : 2 * (M * v) * c = 2 * (M * v * c) := by simp only [Nat.mul_assoc]
    have e3 : P2 (B - 52) * w * c = c * P2 (B - 52) * w := by simp only [Nat.mul_comm, Nat.mul_left_comm]
    have e4 : 2 * v * c = 2 * (c * v) := by simp only [Nat.mul_comm, Nat.mul_assoc]
    rw [Nat.add_mul, e1, e2, e3] at k1
    rw [e3, e4] at k2
    rw [Nat.add_mul]
    omega
  · refine Nat.le_of_mul_le_mul_right (c := w) ?_ hwp
    have k1 := Nat.mul_le_mul_right c z3
    have k2 := Nat.mul_le_mul_right c hv2
    have e1 : 2 * (Z * w) * c = 2 * (Z * c * w) := by simp only [Nat.mul_comm, Nat.mul_left_comm, Nat.mul_assoc]
    have e2 : 2 * (M * v) * c = 2 * (M * v * c) := by simp only [Nat.mul_assoc]
    have e3 : P2 (B - 52) * w * c = c * P2 (B - 52) * w := by simp only [Nat.mul_comm, Nat.mul_left_comm]
    have e4 : 2 * v * c = 2 * (c * v) := by simp only [Nat.mul_comm, Nat.mul_assoc]
    rw [Nat.add_mul, e1, e2, e3] at k1
    rw [e3, e4] at k2
    rw [Nat.add_mul]
    omega
/-! ### the sine's polynomial, over the rationals: at most 1 -/
theorem stepU {X y k a b r s e a' b' c' : Rat} (hk : 0 ≤ k) (hy : 0 ≤ y) (hX : y ≤ X) (hr : a + b * y ≤ r) (hs : s ≤ 1 - k * ((X - y) * r) + e) (ha : 1 - k * X * a + e ≤ a') (hb : k * (a - X * b) ≤ b') (hc : k * b ≤ c') :
    s ≤ a' + b' * y + c' * (y * y) := by
  have h1 : 0 ≤ k * ((X - y) * (r - (a + b * y))) := Rat.mul_nonneg hk (Rat.mul_nonneg (by grind) (by grind))
  have h2 : 0 ≤ (b' - k * (a - X * b)) * y := Rat.mul_nonneg (by grind) hy
  have h3 : 0 ≤ (c' - k * b) * (y * y) := Rat.mul_nonneg (by grind) (Rat.mul_nonneg hy hy)
  grind
theorem stepL {X y k a b c r s e a' b' : Rat} (hk : 0 ≤ k) (hy : 0 ≤ y) (hX : y ≤ X) (hr : r ≤ a + b * y + c * (y * y)) (hs : 1 - k * ((X - y) * r) - e ≤ s) (ha : a' ≤ 1 - k * X * a - e) (hb : b' ≤ k * (a - X * b)) (hc : 0 ≤ c) (hq : X * c ≤ b) :
    a' + b' * y ≤ s := by
  have h1 : 0 ≤ k * ((X - y) * (a + b * y + c * (y * y) - r)) := Rat.mul_nonneg hk (Rat.mul_nonneg (by grind) (by grind))
  have h2 : 0 ≤ (k * (a - X * b) - b') * y := Rat.mul_nonneg (by grind) hy
  have h3 : 0 ≤ k * ((b - X * c) * (y * y)) := Rat.mul_nonneg hk (Rat.mul_nonneg (by grind) (Rat.mul_nonneg hy hy))
  have h4 : 0 ≤ k * (c * (y * (y * y))) := Rat.mul_nonneg hk (Rat.mul_nonneg hc (Rat.mul_nonneg hy (Rat.mul_nonneg hy hy)))
  grind
/-- the chain: the polynomial lies below its tangent parabola -/
theorem chain {x r2 r3 r4 r5 r6 r7 r8 : Rat} (hx0 : 0 ≤ x) (hx1 : x ≤ 24674011002724 / 10000000000000) (h2 : r2 ≤ 1 + 1 / 1000000000000)
    (h3 : 1 - 1 / 156 * (x * r2) - 1 / 1000000000000 ≤ r3) (h4 : r4 ≤ 1 - 1 / 110 * (x * r3) + 1 / 1000000000000) (h5 : 1 - 1 / 72 * (x * r4) - 1 / 1000000000000 ≤ r5)
    (h6 : r6 ≤ 1 - 1 / 42 * (x * r5) + 1 / 1000000000000) (h7 : 1 - 1 / 20 * (x * r6) - 1 / 1000000000000 ≤ r7) (h8 : r8 ≤ 1 - 1 / 6 * (x * r7) + 1 / 1000000000000) :
    r8 ≤ 6366197727911 / 10000000000000 + 1290061365371 / 10000000000000 * (24674011002724 / 10000000000000 - x) + 74030616236 / 10000000000000 * ((24674011002724 / 10000000000000 - x) * (24674011002724 / 10000000000000 - x)) := by
  obtain ⟨y, hy⟩ : ∃ y : Rat, y = 24674011002724 / 10000000000000 - x := ⟨_, rfl⟩
  have hx : x = 24674011002724 / 10000000000000 - y := by grind
  have hy0 : 0 ≤ y := by grind
  have hy1 : y ≤ 24674011002724 / 10000000000000 := by grind
  rw [← hy]
  rw [hx] at h3 h4 h5 h6 h7 h8
  have k3 : 9841833262792 / 10000000000000 + 64102564102 / 10000000000000 * y ≤ r3 := by
    refine stepL (k := 1 / 156) (a := 1 + 1 / 1000000000000) (b := 0) (c := 0) (e := 1 / 1000000000000) (by decide +kernel) hy0 hy1 (by grind) h3 (by decide +kernel) (by decide +kernel) (by decide +kernel) (by decide +kernel)
  have k4 := stepU (a' := 9779238634362 / 10000000000000) (b' := 88033332051 / 10000000000000) (c' := 582750583 / 10000000000000) (by decide +kernel) hy0 hy1 k3 h4 (by decide +kernel) (by decide +kernel) (by decide +kernel)
  have k5 := stepL (a' := 9664870775458 / 10000000000000) (b' := 132805904083 / 10000000000000) (by decide +kernel) hy0 hy1 k4 h5 (by decide +kernel) (by decide +kernel) (by decide +kernel) (by decide +kernel)
  have k6 := stepU (a' := 9432211600359 / 10000000000000) (b' := 222313936705 / 10000000000000) (c' := 3162045336 / 10000000000000) (by decide +kernel) hy0 hy1 k5 h6 (by decide +kernel) (by decide +kernel) (by decide +kernel)
  have k7 := stepL (a' := 8836347535953 / 10000000000000) (b' := 444183697416 / 10000000000000) (by decide +kernel) hy0 hy1 k6 h7 (by decide +kernel) (by decide +kernel) (by decide +kernel) (by decide +kernel)
  exact stepU (by decide +kernel) hy0 hy1 k7 h8 (by decide +kernel) (by decide +kernel) (by decide +kernel)
/-- z times the parabola is at most 1, and a little -/
theorem parab {z a b c Z : Rat} (hz : 0 ≤ z) (hZ : z ≤ Z) (hb : 0 ≤ b) (hc : 0 ≤ c) (hl : 2 * (Z * Z) * b ≤ a) (hq : 4 * c * (Z * Z * Z) ≤ 2 * (Z * b)) :
    z * (a + b * (Z * Z - z * z) + c * ((Z * Z - z * z) * (Z * Z - z * z))) ≤ Z * a := by
  obtain ⟨e, he⟩ : ∃ e : Rat, z = Z - e := ⟨Z - z, by grind⟩
  have e0 : 0 ≤ e := by grind
  have e1 : 0 ≤ Z - e := by grind
  have hZ0 : 0 ≤ Z := by grind
  rw [he]
  have h1 : 0 ≤ (a - 2 * (Z * Z) * b) * e := Rat.mul_nonneg (by grind) e0
  have h2 : 0 ≤ b * (e * (e * (Z - e))) := Rat.mul_nonneg hb (Rat.mul_nonneg e0 (Rat.mul_nonneg e0 e1))
  have h3 : 0 ≤ c * (e * (e * ((Z - e) * (e * (4 * Z - e))))) := Rat.mul_nonneg hc (Rat.mul_nonneg e0 (Rat.mul_nonneg e0 (Rat.mul_nonneg e1 (Rat.mul_nonneg e0 (by grind)))))
  have h4 : 0 ≤ c * (Z * (Z * (e * (e * e)))) := Rat.mul_nonneg hc (Rat.mul_nonneg hZ0 (Rat.mul_nonneg hZ0 (Rat.mul_nonneg e0 (Rat.mul_nonneg e0 e0))))
  have h5 : 0 ≤ (2 * (Z * b) - 4 * c * (Z * Z * Z)) * (e * e) := Rat.mul_nonneg (by grind) (Rat.mul_nonneg e0 e0)
  grind
/-- the sine's value: z, its square x (about), the chain, the last product s (about) -/
theorem sine_le {z x r2 r3 r4 r5 r6 r7 r8 s : Rat} (hz0 : 0 ≤ z) (hz1 : z ≤ 15707963267949 / 10000000000000) (hxl : z * z - 1 / 1000000000000 ≤ x) (hx0 : 0 ≤ x) (hx1 : x ≤ 24674011002724 / 10000000000000) (h2 : r2 ≤ 1 + 1 / 1000000000000)
    (h3 : 1 - 1 / 156 * (x * r2) - 1 / 1000000000000 ≤ r3) (h4 : r4 ≤ 1 - 1 / 110 * (x * r3) + 1 / 1000000000000) (h5 : 1 - 1 / 72 * (x * r4) - 1 / 1000000000000 ≤ r5)
    (h6 : r6 ≤ 1 - 1 / 42 * (x * r5) + 1 / 1000000000000) (h7 : 1 - 1 / 20 * (x * r6) - 1 / 1000000000000 ≤ r7) (h8 : r8 ≤ 1 - 1 / 6 * (x * r7) + 1 / 1000000000000) (hs : s ≤ z * r8 + 1 / 1000000000000) :
    s ≤ 1 + 1 / 100000000 := by
  have k := chain hx0 hx1 h2 h3 h4 h5 h6 h7 h8
  have p := parab (a := 6366197727911 / 10000000000000) (b := 1290061365371 / 10000000000000) (c := 74030616236 / 10000000000000) (Z := 15707963267949 / 10000000000000) hz0 hz1 (by decide +kernel) (by decide +kernel) (by decide +kernel) (by decide +kernel)
  obtain ⟨W, hW⟩ : ∃ W : Rat, W = 15707963267949 / 10000000000000 * (15707963267949 / 10000000000000) - z * z := ⟨_, rfl⟩
  rw [← hW] at p
  have hzz : 0 ≤ z * z := Rat.mul_nonneg hz0 hz0
  have hW0 : 0 ≤ W := by
    have := Rat.mul_nonneg (show 0 ≤ 15707963267949 / 10000000000000 - z by grind) (show 0 ≤ 15707963267949 / 10000000000000 + z by grind)
    grind
  have hW1 : W ≤ 3 := by grind
  obtain ⟨y, hy⟩ : ∃ y : Rat, y = 24674011002724 / 10000000000000 - x := ⟨_, rfl⟩
  rw [← hy] at k
  have hy0 : 0 ≤ y := by grind
  have hyW : y ≤ W + 1 / 100000000000 := by grind
  have hyy : y * y ≤ W * W + 1 / 10000000000 := by
    have m1 := Rat.mul_nonneg hy0 (show 0 ≤ W + 1 / 100000000000 - y by grind)
    have m2 := Rat.mul_nonneg (show 0 ≤ W + 1 / 100000000000 by grind) (show 0 ≤ W + 1 / 100000000000 - y by grind)
    grind
  have hr8 : r8 ≤ 6366197727911 / 10000000000000 + 1290061365371 / 10000000000000 * W + 74030616236 / 10000000000000 * (W * W) + 1 / 10000000000 := by grind
  have m3 := Rat.mul_nonneg hz0 (show 0 ≤ 6366197727911 / 10000000000000 + 1290061365371 / 10000000000000 * W + 74030616236 / 10000000000000 * (W * W) + 1 / 10000000000 - r8 by grind)
  have hfin : (15707963267949 / 10000000000000 : Rat) * (6366197727911 / 10000000000000) ≤ 1 + 1 / 1000000000 := by decide +kernel
  grind
/-! ### a float as a rational number -/
theorem P2_50 : P2 1074 = P2 1024 * 1125899906842624 := by rw [show 1074 = 1024 + 50 from rfl, P2_add, P2_def 50]
theorem p2pos : (0 : Rat) < ((P2 1074 : Nat) : Rat) := by
  have := Rat.natCast_lt_natCast.2 (P2_pos 1074)
  exact this
def hh : Rat := (((P2 1074 : Nat) : Rat))⁻¹
theorem hh_pos : 0 < hh := Rat.inv_pos.2 p2pos
theorem hh_mul : hh * ((P2 1074 : Nat) : Rat) = 1 := Rat.inv_mul_cancel _ (Rat.ne_of_gt p2pos)
theorem hh_e : hh * ((P2 1024 : Nat) : Rat) * 1125899906842624 = 1 := by
  have h := hh_mul
  rw [P2_50, Rat.natCast_mul] at h
  have e : ((1125899906842624 : Nat) : Rat) = 1125899906842624 := rfl
  rw [e, ← Rat.mul_assoc] at h
  exact h
def RV (b : Nat) (x : Rat) : Prop := ∃ X : Nat, val b = some (X : Int) ∧ x = (X : Rat) * hh
theorem RV.nonneg {b : Nat} {x : Rat} (h : RV b x) : 0 ≤ x := by
  obtain ⟨X, _, rfl⟩ := h
  exact Rat.mul_nonneg Rat.natCast_nonneg (Rat.le_of_lt hh_pos)
theorem RV.le {X : Nat} {c : Nat} {x : Rat} (h : x = (X : Rat) * hh) (hx : x ≤ (c : Rat)) : X ≤ c * P2 1074 := by
  have h1 := Rat.mul_le_mul_of_nonneg_right hx (Rat.le_of_lt p2pos)
  rw [h, Rat.mul_assoc, hh_mul, Rat.mul_one, ← Rat.natCast_mul] at h1
  exact Rat.natCast_le_natCast.1 h1
theorem RV.mul {a b : Nat} {x y : Rat} (ha : RV a x) (hb : RV b y) (h : x * y ≤ 4) : ∃ z, RV (fop .mul .f64 a b) z ∧ z ≤ x * y + 1 / 1000000000000000 ∧ x * y ≤ z + 1 / 1000000000000000 := by
  obtain ⟨X, hX, rfl⟩ := ha
  obtain ⟨Y, hY, rfl⟩ := hb
  have hm := hh_mul
  have hp := p2pos
  have hpos := hh_pos
  have he := hh_e
  have hb1 : X * Y ≤ 4 * P2 1074 * P2 1074 := by
    have h1 := Rat.mul_le_mul_of_nonneg_right (Rat.mul_le_mul_of_nonneg_right h (Rat.le_of_lt p2pos)) (Rat.le_of_lt p2pos)
    refine Rat.natCast_le_natCast.1 ?_
    rw [Rat.natCast_mul, Rat.natCast_mul, Rat.natCast_mul]
    have e4 : ((4 : Nat) : Rat) = 4 := rfl
    rw [e4]
    generalize ((P2 1074 : Nat) : Rat) = P at *
    generalize hh = q at *
    generalize (X : Rat) = x at *
    generalize (Y : Rat) = y at *
    have : x * q * (y * q) * P * P = x * y * ((q * P) * (q * P)) := by grind
    rw [this, hm] at h1
    grind
  have hlt : X * Y < P2 (1077 + 1074) := by
    refine Nat.lt_of_le_of_lt hb1 ?_
    rw [P2_add, show 1077 = 3 + 1074 from rfl, P2_add, P2_def 3]
    exact Nat.mul_lt_mul_of_pos_right (Nat.mul_lt_mul_of_pos_right (by decide) (P2_pos _)) (P2_pos _)
  obtain ⟨Z, z1, z2, z3⟩ := mulN hX hY (B := 1077) (by omega) hlt
  refine ⟨_, ⟨Z, z1, rfl⟩, ?_⟩
  have q2 := Rat.natCast_le_natCast.2 z2
  have q3 := Rat.natCast_le_natCast.2 z3
  simp only [Rat.natCast_add, Rat.natCast_mul] at q2 q3
  rw [show 1077 - 53 = 1024 from rfl] at q2 q3
  have e2 : ((2 : Nat) : Rat) = 2 := rfl
  rw [e2] at q2 q3
  have k2 := Rat.mul_le_mul_of_nonneg_right (Rat.mul_le_mul_of_nonneg_right q2 (Rat.le_of_lt hpos)) (Rat.le_of_lt hpos)
  have k3 := Rat.mul_le_mul_of_nonneg_right (Rat.mul_le_mul_of_nonneg_right q3 (Rat.le_of_lt hpos)) (Rat.le_of_lt hpos)
  clear q2 q3 z1 z2 z3 hlt hb1 hX hY h
  generalize ((P2 1074 : Nat) : Rat) = P at *
  generalize ((P2 1024 : Nat) : Rat) = E at *
  generalize hh = q at *
  generalize (X : Rat) = x at *
  generalize (Y : Rat) = y at *
  generalize (Z : Rat) = z at *
  have e5 : 2 * (z * P) * q * q = 2 * (z * q) * (q * P) := by grind
  have e6 : (2 * (x * y) + E * P) * q * q = 2 * (x * q * (y * q)) + (q * E) * (q * P) := by grind
  have e7 : (2 * (z * P) + E * P) * q * q = 2 * (z * q) * (q * P) + (q * E) * (q * P) := by grind
  have e8 : 2 * (x * y) * q * q = 2 * (x * q * (y * q)) := by grind
  rw [e5, e6, hm] at k2
  rw [e7, e8, hm] at k3
  generalize q * E = f at *
  generalize x * q * (y * q) = v at *
  generalize z * q = u at *
  constructor <;> grind
theorem RV.sub {a b : Nat} {x y : Rat} (ha : RV a x) (hb : RV b y) (h : y ≤ x) (hx : x ≤ 4) : ∃ z, RV (fop .sub .f64 a b) z ∧ z ≤ x - y + 1 / 10000000000000 ∧ x - y ≤ z + 1 / 10000000000000 := by
  obtain ⟨X, hX, rfl⟩ := ha
  obtain ⟨Y, hY, rfl⟩ := hb
  have hm := hh_mul
  have hp := p2pos
  have hpos := hh_pos
  have he := hh_e
  have hYX : Y ≤ X := by
    have h1 := Rat.mul_le_mul_of_nonneg_right h (Rat.le_of_lt p2pos)
    rw [Rat.mul_assoc, Rat.mul_assoc, hm, Rat.mul_one, Rat.mul_one] at h1
    exact Rat.natCast_le_natCast.1 h1
  have hX4 : X ≤ 4 * P2 1074 := RV.le (c := 4) rfl hx
  have hlt : X - Y < P2 1077 := by
    rw [show 1077 = 3 + 1074 from rfl, P2_add, P2_def 3]
    have := P2_pos 1074
    omega
  obtain ⟨Z, z1, z2, z3⟩ := subN hX hY (B := 1077) (by omega) hYX hlt
  refine ⟨_, ⟨Z, z1, rfl⟩, ?_⟩
  rw [show 1077 - 53 = 1024 from rfl] at z2 z3
  have z2' : 2 * Z + 2 * Y ≤ 2 * X + P2 1024 := by omega
  have z3' : 2 * X ≤ 2 * Z + P2 1024 + 2 * Y := by omega
  have q2 := Rat.natCast_le_natCast.2 z2'
  have q3 := Rat.natCast_le_natCast.2 z3'
  simp only [Rat.natCast_add, Rat.natCast_mul] at q2 q3
  have e2 : ((2 : Nat) : Rat) = 2 := rfl
  rw [e2] at q2 q3
  have k2 := Rat.mul_le_mul_of_nonneg_right q2 (Rat.le_of_lt hpos)
  have k3 := Rat.mul_le_mul_of_nonneg_right q3 (Rat.le_of_lt hpos)
  clear q2 q3 z1 z2 z3 z2' z3' hlt hX hY h hX4 hx
  generalize ((P2 1074 : Nat) : Rat) = P at *
  generalize ((P2 1024 : Nat) : Rat) = E at *
  generalize hh = q at *
  generalize (X : Rat) = x at *
  generalize (Y : Rat) = y at *
  generalize (Z : Rat) = z at *
  have e5 : (2 * z + 2 * y) * q = 2 * (z * q) + 2 * (y * q) := by grind
  have e6 : (2 * x + E) * q = 2 * (x * q) + q * E := by grind
  have e7 : (2 * z + E + 2 * y) * q = 2 * (z * q) + q * E + 2 * (y * q) := by grind
  have e8 : 2 * x * q = 2 * (x * q) := by grind
  rw [e5, e6] at k2
  rw [e7, e8] at k3
  generalize q * E = f at *
  generalize x * q = v at *
  generalize y * q = w at *
  generalize z * q = u at *
  constructor <;> grind
theorem RV.quo {a c : Nat} {x k : Rat} (ha : RV a x) (hx : x ≤ 4) (hc : 1 ≤ c) (hc2 : c < 2 ^ 52) (hk : 0 ≤ k) (hkc : (c : Rat) * k = 1) :
    ∃ z, RV (fop .quo .f64 a (FloatKind.nearest .f64 (c : Int))) z ∧ z ≤ k * x + 1 / 10000000000000 ∧ k * x ≤ z + 1 / 10000000000000 := by
  obtain ⟨X, hX, rfl⟩ := ha
  have hpos := hh_pos
  have he := hh_e
  have hX4 : X ≤ 4 * P2 1074 := RV.le (c := 4) rfl hx
  have hlt : X < P2 1077 := by
    rw [show 1077 = 3 + 1074 from rfl, P2_add, P2_def 3]
    have := P2_pos 1074
    omega
  obtain ⟨Z, z1, z2, z3⟩ := quoN hX (val_nat hc2) hc (B := 1077) (by omega) hlt
  refine ⟨_, ⟨Z, z1, rfl⟩, ?_⟩
  rw [show 1077 - 52 = 1024 + 1 from rfl, P2_succ] at z2 z3
  have q2 := Rat.natCast_le_natCast.2 z2
  have q3 := Rat.natCast_le_natCast.2 z3
  simp only [Rat.natCast_add, Rat.natCast_mul] at q2 q3
  have e2 : ((2 : Nat) : Rat) = 2 := rfl
  rw [e2] at q2 q3
  have k2 := Rat.mul_le_mul_of_nonneg_right (Rat.mul_le_mul_of_nonneg_right q2 (Rat.le_of_lt hpos)) hk
  have k3 := Rat.mul_le_mul_of_nonneg_right (Rat.mul_le_mul_of_nonneg_right q3 (Rat.le_of_lt hpos)) hk
  clear q2 q3 z1 z2 z3 hlt hX hX4 hx hc hc2
  generalize ((P2 1024 : Nat) : Rat) = E at *
  generalize hh = q at *
  generalize (X : Rat) = x at *
  generalize (c : Rat) = d at *
  generalize (Z : Rat) = z at *
  have e5 : z * d * q * k = z * q * (d * k) := by grind
  have e6 : (x + d * (2 * E)) * q * k = k * (x * q) + 2 * (q * E) * (d * k) := by grind
  have e7 : (z * d + d * (2 * E)) * q * k = z * q * (d * k) + 2 * (q * E) * (d * k) := by grind
  have e8 : x * q * k = k * (x * q) := by grind
  rw [e5, e6, hkc] at k2
  rw [e7, e8, hkc] at k3
  generalize q * E = f at *
  generalize k * (x * q) = v at *
  generalize z * q = u at *
  constructor <;> grind
theorem RV_one : RV 4607182418800017408 1 := ⟨P2 1074, val_one, by rw [Rat.mul_comm]; exact hh_mul.symm⟩
theorem RV_step {u j c : Nat} {x r k : Rat} (hu : RV u x) (hx : x ≤ 24674011002724 / 10000000000000) (hr : RV (sinP u j) r) (hr1 : r ≤ 1 + 1 / 1000000000000)
    (hj : (2 * (8 - j)) * (2 * (8 - j) + 1) = c) (hc : 1 ≤ c) (hc2 : c < 2 ^ 52) (hk : 0 ≤ k) (hk6 : k ≤ 1 / 6) (hkc : (c : Rat) * k = 1) :
    ∃ r', RV (sinP u (j + 1)) r' ∧ 1 - k * (x * r) - 1 / 1000000000000 ≤ r' ∧ r' ≤ 1 - k * (x * r) + 1 / 1000000000000 ∧ r' ≤ 1 + 1 / 1000000000000 := by
  have hx0 := hu.nonneg
  have hr0 := hr.nonneg
  have hxr0 : 0 ≤ x * r := Rat.mul_nonneg hx0 hr0
  have hxr : x * r ≤ 3 := by
    have m1 := Rat.mul_nonneg hx0 (show 0 ≤ 1 + 1 / 1000000000000 - r by grind)
    grind
  obtain ⟨a, ha, a1, a2⟩ := RV.mul hu hr (by grind)
  have ha0 := ha.nonneg
  obtain ⟨q, hq, q1, q2⟩ := RV.quo ha (by grind) hc hc2 hk hkc
  have hka : k * a ≤ 1 / 6 * a := by
    have := Rat.mul_nonneg (show 0 ≤ 1 / 6 - k by grind) ha0
    grind
  obtain ⟨z, hz, z1, z2⟩ := RV.sub RV_one hq (by grind) (by grind)
  have hs : sinP u (j + 1) = fop .sub .f64 4607182418800017408 (fop .quo .f64 (fop .mul .f64 u (sinP u j)) (FloatKind.nearest .f64 (c : Int))) := by rw [sinP, hj]
  rw [hs]
  have k1 := Rat.mul_nonneg hk (show 0 ≤ x * r + 1 / 10000000000000 - a by grind)
  have k2 := Rat.mul_nonneg hk (show 0 ≤ a + 1 / 10000000000000 - x * r by grind)
  have k3 := Rat.mul_nonneg hk hxr0
  generalize x * r = v at *
  refine ⟨z, hz, ?_, ?_, ?_⟩ <;> grind
theorem RV_twopi : RV 4618760256179416344 (7074237752028440 / 1125899906842624) := by
  refine ⟨7074237752028440 * P2 1024, ?_, ?_⟩
  · rw [val_of_read (s := false) (m := 7074237752028440) (e := -50) (by decide +kernel), P2_def]
    decide +kernel
  · have he := hh_e
    rw [Rat.natCast_mul]
    have e : ((7074237752028440 : Nat) : Rat) = 7074237752028440 := rfl
    rw [e]
    generalize ((P2 1024 : Nat) : Rat) = E at *
    generalize hh = q at *
    have e2 : 7074237752028440 * E * q = 7074237752028440 * (q * E) := by grind
    rw [e2]
    generalize q * E = f at *
    have : f = 1 / 1125899906842624 := by grind
    rw [this]
    decide +kernel
theorem sineG_le {g : Nat} {x0 : Rat} (hg : RV g x0) (hx : x0 ≤ 1 / 4) : ∃ s, RV (sineG g) s ∧ s ≤ 1 + 1 / 100000000 := by
  have g0 := hg.nonneg
  have t1 : x0 * (7074237752028440 / 1125899906842624) ≤ 15707963267948967 / 10000000000000000 := by
    have e : (7074237752028440 / 1125899906842624 : Rat) ≤ 4 * (15707963267948967 / 10000000000000000) := by decide +kernel
    have m1 := Rat.mul_nonneg g0 (show 0 ≤ 4 * (15707963267948967 / 10000000000000000 : Rat) - 7074237752028440 / 1125899906842624 by grind)
    grind
  obtain ⟨z, hz, z1, z2⟩ := RV.mul hg RV_twopi (by grind)
  have hz0 := hz.nonneg
  have hz1 : z ≤ 15707963267949 / 10000000000000 - 1 / 1000000000000000 := by grind
  have hzz : z * z ≤ 24674011002723600 / 10000000000000000 := by
    have m1 := Rat.mul_nonneg hz0 (show 0 ≤ 15707963267949 / 10000000000000 - z by grind)
    have e : (15707963267949 / 10000000000000 : Rat) * (15707963267949 / 10000000000000) ≤ 24674011002723600 / 10000000000000000 := by decide +kernel
    grind
  obtain ⟨x, hx, x1, x2⟩ := RV.mul hz hz (by grind)
  have hx0 := hx.nonneg
  have hX : x ≤ 24674011002724 / 10000000000000 := by grind
  have hone : (1 : Rat) ≤ 1 + 1 / 1000000000000 := by decide +kernel
  obtain ⟨r1, h1, _, _, b1⟩ := RV_step (j := 0) (c := 272) (k := 1 / 272) hx hX RV_one hone (by decide) (by decide) (by decide) (by decide +kernel) (by decide +kernel) (by decide +kernel)
  obtain ⟨r2, h2, _, _, b2⟩ := RV_step (j := 1) (c := 210) (k := 1 / 210) hx hX h1 b1 (by decide) (by decide) (by decide) (by decide +kernel) (by decide +kernel) (by decide +kernel)
  obtain ⟨r3, h3, l3, _, b3⟩ := RV_step (j := 2) (c := 156) (k := 1 / 156) hx hX h2 b2 (by decide) (by decide) (by decide) (by decide +kernel) (by decide +kernel) (by decide +kernel)
  obtain ⟨r4, h4, _, u4, b4⟩ := RV_step (j := 3) (c := 110) (k := 1 / 110) hx hX h3 b3 (by decide) (by decide) (by decide) (by decide +kernel) (by decide +kernel) (by decide +kernel)
  obtain ⟨r5, h5, l5, _, b5⟩ := RV_step (j := 4) (c := 72) (k := 1 / 72) hx hX h4 b4 (by decide) (by decide) (by decide) (by decide +kernel) (by decide +kernel) (by decide +kernel)
  obtain ⟨r6, h6, _, u6, b6⟩ := RV_step (j := 5) (c := 42) (k := 1 / 42) hx hX h5 b5 (by decide) (by decide) (by decide) (by decide +kernel) (by decide +kernel) (by decide +kernel)
  obtain ⟨r7, h7, l7, _, b7⟩ := RV_step (j := 6) (c := 20) (k := 1 / 20) hx hX h6 b6 (by decide) (by decide) (by decide) (by decide +kernel) (by decide +kernel) (by decide +kernel)
  obtain ⟨r8, h8, _, u8, b8⟩ := RV_step (j := 7) (c := 6) (k := 1 / 6) hx hX h7 b7 (by decide) (by decide) (by decide) (by decide +kernel) (by decide +kernel) (by decide +kernel)
  have hr8 := h8.nonneg
  obtain ⟨s, hs, s1, s2⟩ := RV.mul hz h8 (by
    have m1 := Rat.mul_nonneg hz0 (show 0 ≤ 1 + 1 / 1000000000000 - r8 by grind)
    grind)
  exact ⟨s, hs, sine_le hz0 (by grind) (by grind) hx0 hX b2 l3 u4 l5 u6 l7 u8 (by grind)⟩
/-- the sine's value, as a whole number of the smallest steps -/
theorem sineG_int {g : Nat} {y : Int} (h : val g = some y) (h0 : 0 ≤ y) (hy : y.natAbs ≤ P2 1072) : ∃ S : Nat, val (sineG g) = some (S : Int) ∧ S * 100000000 ≤ 100000001 * P2 1074 := by
  obtain ⟨Y, rfl⟩ : ∃ Y : Nat, y = (Y : Int) := ⟨y.toNat, by omega⟩
  rw [Int.natAbs_natCast] at hy
  have hq : (Y : Rat) * hh ≤ 1 / 4 := by
    have e : Y * 4 ≤ P2 1074 := by
      rw [show 1074 = 1072 + 1 + 1 from rfl, P2_succ, P2_succ]; omega
    have q := Rat.natCast_le_natCast.2 e
    rw [Rat.natCast_mul] at q
    have e4 : ((4 : Nat) : Rat) = 4 := rfl
    rw [e4] at q
    have k := Rat.mul_le_mul_of_nonneg_right q (Rat.le_of_lt hh_pos)
    have hm := hh_mul
    generalize ((P2 1074 : Nat) : Rat) = P at *
    generalize hh = w at *
    generalize (Y : Rat) = y at *
    have e5 : y * 4 * w = 4 * (y * w) := by grind
    have e6 : P * w = w * P := by grind
    rw [e5, e6, hm] at k
    generalize y * w = v at *
    grind
  obtain ⟨s, ⟨S, hS, rfl⟩, hs⟩ := sineG_le ⟨Y, h, rfl⟩ hq
  refine ⟨S, hS, ?_⟩
  refine Rat.natCast_le_natCast.1 ?_
  rw [Rat.natCast_mul, Rat.natCast_mul]
  have e4 : ((100000000 : Nat) : Rat) = 100000000 := rfl
  have e5 : ((100000001 : Nat) : Rat) = 100000001 := rfl
  rw [e4, e5]
  have k := Rat.mul_le_mul_of_nonneg_right hs (Rat.le_of_lt p2pos)
  have hm := hh_mul
  generalize ((P2 1074 : Nat) : Rat) = P at *
  generalize hh = q at *
  generalize (S : Rat) = v at *
  have e6 : v * q * P = v := by
    have : v * q * P = v * (q * P) := by grind
    rw [this, hm]; grind
  rw [e6] at k
  have e7 : (1 + 1 / 100000000 : Rat) = 100000001 / 100000000 := by decide +kernel
  rw [e7] at k
  grind
/-! ### 32 bits: a finite number and a bound for its size, in steps of 2^-149 -/
def Sf (b A : Nat) : Prop := ∃ s m e, Ieee.single.read b = .number s m e ∧ m < 16777216 ∧ -149 ≤ e ∧ e ≤ 104 ∧ m * P2 (e + 149).toNat ≤ A
theorem Sf.fin {b A : Nat} (h : Sf b A) : finB b = true := by
  obtain ⟨s, m, e, hr, _⟩ := h
  unfold finB
  rw [sub_self (k := .f32) hr]; exact cmp_00 _
theorem Sf.mono {b A B : Nat} (h : Sf b A) (hAB : A ≤ B) : Sf b B := by
  obtain ⟨s, m, e, hr, h1, h2, h3, h4⟩ := h
  exact ⟨s, m, e, hr, h1, h2, h3, Nat.le_trans h4 hAB⟩
theorem Sf.of_fin {b : Nat} (h : finB b = true) : Sf b (16777215 * P2 253) := by
  rcases finB_cases b with ⟨_, _, s, m, e, hr, h1, h2, h3⟩ | ⟨h1, _⟩
  · exact ⟨s, m, e, hr, h1, h2, h3, Nat.mul_le_mul (by omega) (P2_le (by omega))⟩
  · rw [h] at h1; cases h1
theorem rung_Sf {s : Bool} {r d T : Nat} (h : r ≤ d * 8388608 + T) (hT : 8388608 ≤ T ∧ T < 16777216) (hr : r < 2139095040) : Sf (Ieee.single.word s r) (T * P2 d) := by
  obtain ⟨eb, ei, el, ef, es⟩ := sE
  have hrd : ∃ s', Ieee.single.read (Ieee.single.word s r) = if r < 8388608 then .number s' r (-149) else .number s' (8388608 + r % 8388608) (-149 + (r / 8388608 - 1 : Nat)) := by
    refine ⟨Ieee.single.word s r / 2147483648 % 2 == 1, ?_⟩
    unfold Ieee.Format.read
    dsimp only
    rw [rung_word _ s r (by rw [es]; omega), eb, ei, el, es]
    split
    · rfl
    · first | rfl | rw [if_pos hr]
  obtain ⟨s', hrd⟩ := hrd
  by_cases hlt : r < 8388608
  · rw [if_pos hlt] at hrd
    refine ⟨s', r, -149, hrd, by omega, by omega, by omega, ?_⟩
    have : P2 ((-149 : Int) + 149).toNat = 1 := by rw [P2_def]; decide
    rw [this, Nat.mul_one]
    exact Nat.le_trans (show r ≤ T by omega) (Nat.le_mul_of_pos_right _ (P2_pos _))
  · rw [if_neg hlt] at hrd
    refine ⟨s', _, _, hrd, by omega, by omega, by omega, ?_⟩
    rw [show ((-149 : Int) + ((r / 8388608 - 1 : Nat) : Int) + 149).toNat = r / 8388608 - 1 by omega]
    by_cases hd : r / 8388608 - 1 = d
    · rw [hd]
      exact Nat.mul_le_mul_right _ (by omega)
    · have h1 : r / 8388608 - 1 + 1 ≤ d := by omega
      have h2 := P2_le h1
      rw [P2_succ] at h2
      refine Nat.le_trans (Nat.mul_le_mul_right _ (show 8388608 + r % 8388608 ≤ 8388608 * 2 by omega)) ?_
      rw [Nat.mul_assoc]
      exact Nat.mul_le_mul hT.1 h2
/-- rounded to 32 bits -/
theorem near32 (s : Bool) {m : Nat} {e : Int} {K d T : Nat} (hT : 8388608 ≤ T ∧ T < 16777216) (hd : d ≤ 253) (hf : d * 8388608 + T < 2139095040) (hK : 0 ≤ e + K ∧ 149 ≤ K) (h : m * P2 (e + K).toNat * 2 < (2 * T + 1) * P2 (d + (K - 149))) :
    Sf (Ieee.single.nearest s m e) (T * P2 d) := by
  obtain ⟨eb, ei, el, ef, es⟩ := sE
  by_cases h0 : m = 0
  · subst h0
    have : Ieee.single.nearest s 0 e = Ieee.single.word s 0 := by unfold Ieee.Format.nearest; rfl
    rw [this]
    exact rung_Sf (by omega) hT (by omega)
  have hlog : m.log2 + (e + K).toNat < 24 + d + (K - 149) := by
    have h1 : P2 (m.log2 + (e + K).toNat + 1) < P2 (25 + d + (K - 149)) := by
      rw [P2_succ, P2_add, show 25 + d + (K - 149) = 25 + (d + (K - 149)) by omega, P2_add 25]
      have h2 : P2 m.log2 ≤ m := by rw [P2_def]; exact Nat.log2_self_le h0
      have h3 : 2 * T + 1 ≤ P2 25 := by rw [P2_def]; omega
      have h4 := Nat.mul_le_mul_right (P2 (e + K).toNat) h2
      have h5 := Nat.mul_le_mul_right (P2 (d + (K - 149))) h3
      omega
    rw [P2_def, P2_def] at h1
    have := (Nat.pow_lt_pow_iff_right (a := 2) (by decide)).1 h1
    omega
  have hlt := Nat.lt_log2_self (n := m)
  unfold Ieee.Format.nearest
  rw [if_neg h0]
  dsimp only
  simp only [eb, ei, el, ef]
  obtain ⟨last, hl⟩ : ∃ last : Int, max (e + (m.log2 : Int) - (23 : Nat)) (-149) = last := ⟨_, rfl⟩
  rw [hl]
  have hk := cut_le s (m <<< (e - last).toNat) (last - e).toNat 24 (by
    rw [Nat.shiftLeft_eq]
    refine Nat.le_trans (Nat.mul_le_mul_right _ (Nat.le_of_lt hlt)) ?_
    rw [← Nat.pow_add]
    exact Nat.pow_le_pow_right (by decide) (by omega))
  rw [show (2 : Nat) ^ 24 = 16777216 by decide] at hk
  have hc := (cut_err s (m <<< (e - last).toNat) (last - e).toNat).1
  rw [Nat.shiftLeft_eq] at hc hk ⊢
  generalize Ieee.Toward.even.cut s (m * 2 ^ (e - last).toNat) (last - e).toNat = kept at *
  have hrung : (last - -149).toNat * 8388608 + kept ≤ d * 8388608 + T := by
    by_cases hle : last + 149 = d
    · have hkT : kept ≤ T := by
        refine Nat.le_of_lt_succ (Nat.lt_of_not_le fun hge => ?_)
        obtain ⟨f, hf1, hf2⟩ : ∃ f : Nat, (last - e).toNat + f = d + (K - 149) ∧ (e - last).toNat + f = (e + K).toNat := ⟨d + (K - 149) - (last - e).toNat, by omega, by omega⟩
        rw [← P2_def, ← P2_def] at hc
        have k1 := Nat.mul_le_mul_right (P2 f) hc
        have e1 : 2 * (kept * P2 (last - e).toNat) * P2 f = 2 * (kept * P2 (d + (K - 149))) := by rw [← hf1, P2_add]; simp only [Nat.mul_assoc]
        have e2 : 2 * (m * P2 (e - last).toNat) * P2 f = 2 * (m * P2 (e + K).toNat) := by rw [← hf2, P2_add]; simp only [Nat.mul_assoc]
        have e3 : P2 (last - e).toNat * P2 f = P2 (d + (K - 149)) := by rw [← P2_add, hf1]
        rw [Nat.add_mul, e1, e2, e3] at k1
        have k2 := Nat.mul_le_mul_right (P2 (d + (K - 149))) hge
        have e9 : (2 * T + 1) * P2 (d + (K - 149)) = 2 * (T * P2 (d + (K - 149))) + P2 (d + (K - 149)) := by rw [Nat.add_mul, Nat.one_mul, Nat.mul_assoc]
        rw [e9] at h
        rw [Nat.succ_mul] at k2
        clear e9 e1 e2 e3 hc hlog hlt hk hl
        generalize kept * P2 (d + (K - 149)) = a at *
        generalize T * P2 (d + (K - 149)) = b at *
        generalize m * P2 (e + K).toNat = c at *
        omega
      omega
    · omega
  generalize (last - -149).toNat = Q at *
  have hR : Q * 8388608 + kept < 2139095040 := Nat.lt_of_le_of_lt hrung hf
  have hmin : min (Q * 8388608 + kept) 2139095040 = Q * 8388608 + kept := Nat.min_eq_left (Nat.le_of_lt hR)
  have := rung_Sf (s := s) hrung hT hR
  rw [← hmin] at this
  exact this
theorem mul32 {a b A B d T : Nat} (ha : Sf a A) (hb : Sf b B) (hT : 8388608 ≤ T ∧ T < 16777216) (hd : d ≤ 253) (hf : d * 8388608 + T < 2139095040) (h : A * B * 2 < (2 * T + 1) * P2 (d + 149)) : Sf (fop .mul .f32 a b) (T * P2 d) := by
  obtain ⟨s, m, i, hr, _, h1, _, h2⟩ := ha
  obtain ⟨t, n, j, hs, _, h3, _, h4⟩ := hb
  have hm : fop .mul .f32 a b = Ieee.single.nearest (s ^^ t) (m * n) (i + j) := by
    unfold fop
    show (((Ieee.single.read a).product (Ieee.single.read b)).map Ieee.single.write).getD _ = _
    rw [hr, hs]; rfl
  rw [hm]
  refine near32 _ (K := 298) hT hd hf (by omega) ?_
  rw [show 298 - 149 = 149 from rfl]
  refine Nat.lt_of_le_of_lt (Nat.mul_le_mul_right 2 ?_) h
  have e1 : m * n * P2 (i + j + (298 : Nat)).toNat = m * P2 (i + 149).toNat * (n * P2 (j + 149).toNat) := by
    rw [show (i + j + (298 : Nat)).toNat = (i + 149).toNat + (j + 149).toNat by omega, P2_add]
    simp only [Nat.mul_left_comm, Nat.mul_assoc]
  rw [e1]
  exact Nat.mul_le_mul h2 h4
theorem add32 {a b A B d T : Nat} (ha : Sf a A) (hb : Sf b B) (hT : 8388608 ≤ T ∧ T < 16777216) (hd : d ≤ 253) (hf : d * 8388608 + T < 2139095040) (h : (A + B) * 2 < (2 * T + 1) * P2 d) : Sf (fop .add .f32 a b) (T * P2 d) := by
  obtain ⟨s, m, i, hr, _, h1, _, h2⟩ := ha
  obtain ⟨t, n, j, hs, _, h3, _, h4⟩ := hb
  have hm : fop .add .f32 a b = Ieee.single.nearest (if Ieee.signed s m (i - min i j).toNat + Ieee.signed t n (j - min i j).toNat = 0 then s && t else Ieee.signed s m (i - min i j).toNat + Ieee.signed t n (j - min i j).toNat < 0) (Ieee.signed s m (i - min i j).toNat + Ieee.signed t n (j - min i j).toNat).natAbs (min i j) := by
    unfold fop
    show (((Ieee.single.read a).sum (Ieee.single.read b)).map Ieee.single.write).getD _ = _
    rw [hr, hs]; rfl
  rw [hm]
  refine near32 _ (K := 149) hT hd hf (by omega) ?_
  rw [Nat.sub_self, Nat.add_zero]
  refine Nat.lt_of_le_of_lt (Nat.mul_le_mul_right 2 ?_) h
  have p1 : (Ieee.signed s m (i - min i j).toNat).natAbs = m * P2 (i - min i j).toNat := by rw [signed_abs, P2_def]
  have p2 : (Ieee.signed t n (j - min i j).toNat).natAbs = n * P2 (j - min i j).toNat := by rw [signed_abs, P2_def]
  refine Nat.le_trans (Nat.mul_le_mul_right _ (Int.natAbs_add_le _ _)) ?_
  rw [p1, p2, Nat.add_mul, Nat.mul_assoc, Nat.mul_assoc, ← P2_add, ← P2_add, show (i - min i j).toNat + (min i j + (149 : Nat)).toNat = (i + 149).toNat by omega, show (j - min i j).toNat + (min i j + (149 : Nat)).toNat = (j + 149).toNat by omega]
  exact Nat.add_le_add h2 h4
/-! ### the sine's value in 32 bits: at most 1 -/
theorem sineV_le {t : Nat} (h : Small t) : ∃ x : Int, val (sineV (fr t)) = some x ∧ x.natAbs * 100000000 ≤ 100000001 * P2 1074 := by
  obtain ⟨z, h1, h2, h3⟩ := fr_ok h
  obtain ⟨y, k1, k2, k3⟩ := f3_ok h1 h2 h3
  obtain ⟨S, hS, hle⟩ := sineG_int k1 k2 k3
  cases hb : below (fr t) with
  | true => rw [sineV_t hb]; exact ⟨_, val_neg hS, by rw [Int.natAbs_neg, Int.natAbs_natCast]; exact hle⟩
  | false => rw [sineV_f hb]; exact ⟨_, hS, by rw [Int.natAbs_natCast]; exact hle⟩
theorem one_P : 8388608 * P2 126 = P2 149 := by rw [show 149 = 23 + 126 from rfl, P2_add, P2_def 23]
theorem narrow_one {b : Nat} {x : Int} (h : val b = some x) (hx : x.natAbs * 100000000 ≤ 100000001 * P2 1074) : Sf (cvt .f64 .f32 b) (P2 149) := by
  obtain ⟨s, m, e, hr, he, rfl⟩ := read_some h
  rw [signed_abs, ← P2_def] at hx
  have hn : Sf (Ieee.single.nearest s m e) (8388608 * P2 126) := by
    refine near32 s (K := 1074) (by omega) (by omega) (by omega) (by omega) ?_
    have e1 : P2 1074 = 8388608 * P2 1051 := by rw [show 1074 = 23 + 1051 from rfl, P2_add, P2_def 23]
    rw [show 126 + (1074 - 149) = 1051 from rfl]
    rw [e1] at hx
    have hp := P2_pos 1051
    rw [show (e + ((1074 : Nat) : Int)).toNat = (e + 1074).toNat from rfl]
    generalize m * P2 (e + 1074).toNat = a at *
    generalize P2 1051 = c at *
    omega
  rw [one_P] at hn
  have hd : FloatKind.f64.decode b = .number s m e := hr
  have hi : (FloatKind.f32.decode (Ieee.single.nearest s m e)).isInfinity = false := by
    obtain ⟨s', m', e', hr', _⟩ := hn
    show (Ieee.single.read (Ieee.single.nearest s m e)).isInfinity = false
    rw [hr']; rfl
  have hc : cvt .f64 .f32 b = Ieee.single.nearest s m e := by
    unfold cvt floatToFloatBits
    rw [if_neg (by decide), hd]
    simp only
    rw [show FloatKind.f32.encode (.number s m e) = Ieee.single.nearest s m e from rfl, hi]; rfl
  rw [hc]; exact hn
theorem sineA_one {t : Nat} (h : finB t = true) : Sf (sineA t) (P2 149) := by
  have hz : Sf (cvt .f64 .f32 0) (P2 149) := narrow_one val_0 (by simp)
  have hn : fcmp .neq .f64 (fop .sub .f64 (cvt .f32 .f64 t) (cvt .f32 .f64 t)) 0 = false := by
    rcases finB_cases t with ⟨_, _, s, m, e, hr, h1, h2, h3⟩ | ⟨h1, _⟩
    · obtain ⟨_, hv⟩ := wide hr h1 ⟨h2, h3⟩
      rw [sub_self64 hv]; decide +kernel
    · rw [h] at h1; cases h1
  unfold sineA
  rcases tcases (cvt .f32 .f64 t) with ⟨h1, _⟩ | ⟨_, _, h2⟩ | ⟨_, _, _, h2⟩ | ⟨_, h2, h3⟩
  · rw [hn] at h1; cases h1
  · rw [h2]; exact hz
  · rw [h2]; exact hz
  · rw [h3]
    obtain ⟨x, hx, hle⟩ := sineV_le h2
    exact narrow_one hx hle
/-! ### a particle's place is finite -/
def wq (n k : Nat) : Nat := fop .quo .f32 (fop .add .f32 (FloatKind.nearest .f32 (k : Int)) 1056964608) (FloatKind.nearest .f32 (n : Int))
def wx (w : Nat) (m : Int) (n size k : Nat) : Nat := fop .add .f32 (fop .mul .f32 (FloatKind.nearest .f32 (w : Int)) (wq n k)) (fop .mul .f32 size (sineA (fop .mul .f32 (FloatKind.nearest .f32 m) (wq n k))))
def wy (h : Nat) : Nat := fop .quo .f32 (FloatKind.nearest .f32 (h : Int)) 1073741824
def chk (b A : Nat) : Bool := match Ieee.single.read b with
  | .number s m e => decide (m < 16777216) && (decide (-149 ≤ e) && (decide (e ≤ 104) && decide (m * 2 ^ (e + 149).toNat ≤ A)))
  | _ => false
theorem chk_Sf {b A : Nat} (h : chk b A = true) : Sf b A := by
  unfold chk at h
  split at h
  · rename_i s m e hr
    simp only [Bool.and_eq_true, decide_eq_true_eq] at h
    exact ⟨s, m, e, hr, h.1, h.2.1, h.2.2.1, by rw [P2_def]; exact h.2.2.2⟩
  · cases h
theorem wq_all : ((List.range 65).all fun n => (List.range n).all fun k => chk (wq n k) (2 ^ 149)) = true := by decide +kernel
theorem wq_one {n k : Nat} (hn : n ≤ 64) (hk : k < n) : Sf (wq n k) (P2 149) := by
  have h := List.all_eq_true.1 wq_all n (List.mem_range.2 (by omega))
  have h2 := List.all_eq_true.1 h k (List.mem_range.2 hk)
  rw [P2_def]
  exact chk_Sf h2
theorem nat_all : ((List.range 17).all fun n => chk (FloatKind.nearest .f32 (n : Int)) (2 ^ 153) && finB (wy n)) = true := by decide +kernel
theorem nat_sf {n : Nat} (h : n ≤ 16) : Sf (FloatKind.nearest .f32 (n : Int)) (P2 153) ∧ finB (wy n) = true := by
  have h := List.all_eq_true.1 nat_all n (List.mem_range.2 (by omega))
  rw [Bool.and_eq_true] at h
  rw [P2_def]
  exact ⟨chk_Sf h.1, h.2⟩
theorem near_q {w n k : Nat} (hw : w ≤ 16) (hn : n ≤ 64) (hk : k < n) : Sf (fop .mul .f32 (FloatKind.nearest .f32 (w : Int)) (wq n k)) (8388608 * P2 131) :=
  mul32 (nat_sf hw).1 (wq_one hn hk) (by omega) (by omega) (by omega) (by
    rw [← P2_add, show 153 + 149 = 22 + (131 + 149) from rfl, P2_add 22, P2_def 22]
    have := P2_pos (131 + 149)
    generalize P2 (131 + 149) = c at *
    omega)
theorem wx_fin {w : Nat} {m : Int} {n size k : Nat} (hw : w ≤ 16) (hm : 0 ≤ m ∧ m ≤ 16) (hn : n ≤ 64) (hk : k < n) (hs : finB size = true) : finB (wx w m n size k) = true := by
  obtain ⟨l, rfl⟩ : ∃ l : Nat, m = (l : Int) := ⟨m.toNat, by omega⟩
  have h1 := near_q (w := w) hw hn hk
  have h2 := sineA_one (near_q (w := l) (by omega) hn hk).fin
  have h3 : Sf (fop .mul .f32 size (sineA (fop .mul .f32 (FloatKind.nearest .f32 (l : Int)) (wq n k)))) (16777215 * P2 253) :=
    mul32 (Sf.of_fin hs) h2 (by omega) (by omega) (by omega) (by
      rw [Nat.mul_assoc 16777215, ← P2_add]
      have := P2_pos (253 + 149)
      generalize P2 (253 + 149) = c at *
      omega)
  exact (add32 (T := 16777215) (d := 253) h1 h3 (by omega) (by omega) (by omega) (by
    have e1 : P2 253 = P2 122 * P2 131 := by rw [← P2_add]
    have e2 : P2 122 = 4194304 * P2 100 := by rw [show 122 = 22 + 100 from rfl, P2_add, P2_def 22]
    have h4 := P2_pos 131
    have h5 : 8388608 * P2 131 * 4 ≤ P2 253 := by
      rw [e1, e2, Nat.mul_right_comm]
      refine Nat.mul_le_mul_right _ ?_
      have h6 : P2 3 ≤ P2 100 := P2_le (by omega)
      rw [P2_def 3] at h6
      omega
    have h7 := P2_pos 253
    generalize P2 253 = c at *
    generalize 8388608 * P2 131 = d at *
    omega)).fin

end Go.Proofs.Ytnonlibekcacgaa.En
