/- Engine, part S: order, finiteness, widening and narrowing of numbers; one value has one nearest word. No program in sight. -/
import Derived.Test.YtnonlibekcacgaaEngR
namespace Go.Proofs.Ytnonlibekcacgaa.En
open Go
set_option linter.unusedVariables false
theorem cmp_mul {a b p : Int} (hp : 0 < p) : compare (a * p) (b * p) = compare a b := by
  rcases Int.lt_trichotomy a b with h | h | h
  · rw [Int.compare_eq_lt.2 h, Int.compare_eq_lt.2 (Int.mul_lt_mul_of_pos_right h hp)]
  · rw [h, Int.compare_eq_eq.2 rfl, Int.compare_eq_eq.2 rfl]
  · rw [Int.compare_eq_gt.2 h, Int.compare_eq_gt.2 (Int.mul_lt_mul_of_pos_right h hp)]
theorem datum_order {s t : Bool} {m n : Nat} {i j : Int} (hi : -1074 ≤ i) (hj : -1074 ≤ j) :
    Ieee.Datum.order (.number s m i) (.number t n j) = some (compare (Ieee.signed s m (i + 1074).toNat) (Ieee.signed t n (j + 1074).toNat)) := by
  rw [show (i + 1074).toNat = (i - min i j).toNat + (min i j + 1074).toNat by omega, show (j + 1074).toNat = (j - min i j).toNat + (min i j + 1074).toNat by omega, signed_add, signed_add,
    cmp_mul (by have := Nat.two_pow_pos (min i j + 1074).toNat; omega)]
  rfl
theorem order_val {a b : Nat} {x y : Int} (ha : val a = some x) (hb : val b = some y) : FloatKind.f64.format.order a b = some (compare x y) := by
  obtain ⟨s, m, i, ra, hi, rfl⟩ := read_some ha
  obtain ⟨t, n, j, rb, hj, rfl⟩ := read_some hb
  show (Ieee.double.read a).order (Ieee.double.read b) = _
  rw [ra, rb]
  exact datum_order hi hj
section
variable {a b : Nat} {x y : Int}
theorem fcmp_lss (ha : val a = some x) (hb : val b = some y) : fcmp .lss .f64 a b = decide (x < y) := by
  unfold fcmp; dsimp only; rw [order_val ha hb]
  rcases Int.lt_trichotomy x y with h | h | h
  · rw [Int.compare_eq_lt.2 h]; simp [h]
  · rw [Int.compare_eq_eq.2 h]; simp [h]
  · rw [Int.compare_eq_gt.2 h]; simp; omega
theorem fcmp_gtr (ha : val a = some x) (hb : val b = some y) : fcmp .gtr .f64 a b = decide (y < x) := by
  unfold fcmp; dsimp only; rw [order_val ha hb]
  rcases Int.lt_trichotomy x y with h | h | h
  · rw [Int.compare_eq_lt.2 h]; simp; omega
  · rw [Int.compare_eq_eq.2 h]; simp [h]
  · rw [Int.compare_eq_gt.2 h]; simp [h]
theorem fcmp_leq (ha : val a = some x) (hb : val b = some y) : fcmp .leq .f64 a b = decide (x ≤ y) := by
  unfold fcmp; dsimp only; rw [order_val ha hb]
  rcases Int.lt_trichotomy x y with h | h | h
  · rw [Int.compare_eq_lt.2 h]; simp; omega
  · rw [Int.compare_eq_eq.2 h]; simp; omega
  · rw [Int.compare_eq_gt.2 h]; simp; omega
theorem fcmp_geq (ha : val a = some x) (hb : val b = some y) : fcmp .geq .f64 a b = decide (y ≤ x) := by
  unfold fcmp; dsimp only; rw [order_val ha hb]
  rcases Int.lt_trichotomy x y with h | h | h
  · rw [Int.compare_eq_lt.2 h]; simp; omega
  · rw [Int.compare_eq_eq.2 h]; simp; omega
  · rw [Int.compare_eq_gt.2 h]; simp; omega
theorem fcmp_eql (ha : val a = some x) (hb : val b = some y) : fcmp .eql .f64 a b = decide (x = y) := by
  unfold fcmp; dsimp only; rw [order_val ha hb]
  rcases Int.lt_trichotomy x y with h | h | h
  · rw [Int.compare_eq_lt.2 h]; simp; omega
  · rw [Int.compare_eq_eq.2 h]; simp [h]
  · rw [Int.compare_eq_gt.2 h]; simp; omega
theorem fcmp_neq (ha : val a = some x) (hb : val b = some y) : fcmp .neq .f64 a b = !decide (x = y) := by
  rw [← fcmp_eql ha hb]; rfl
end

/-! ### what is taken from itself -/
theorem sub_self {k : FloatKind} {b : Nat} {s : Bool} {m : Nat} {e : Int} (h : k.format.read b = .number s m e) : fop .sub k b b = 0 := by
  have h0 : (if Ieee.signed s m (e - min e e).toNat + Ieee.signed (!s) m (e - min e e).toNat = 0 then s && !s else decide (Ieee.signed s m (e - min e e).toNat + Ieee.signed (!s) m (e - min e e).toNat < 0)) = false := by
    rw [signed_not, Int.add_right_neg, if_pos rfl]; cases s <;> rfl
  have h1 : (Ieee.signed s m (e - min e e).toNat + Ieee.signed (!s) m (e - min e e).toNat).natAbs = 0 := by rw [signed_not, Int.add_right_neg]; rfl
  unfold fop
  show (((k.format.read b).sum (k.format.read b).opposite).map k.format.write).getD _ = 0
  rw [h]
  show (some (k.format.write (.number _ _ _))).getD _ = 0
  rw [h0, h1]
  show k.format.nearest false 0 (min e e) = 0
  unfold Ieee.Format.nearest Ieee.Format.word
  simp
theorem sub_inf {k : FloatKind} {b : Nat} {s : Bool} (h : k.format.read b = .infinity s) : fop .sub k b b = qnan k := by
  unfold fop
  show (((k.format.read b).sum (k.format.read b).opposite).map k.format.write).getD _ = _
  rw [h]
  cases s <;> rfl
theorem sub_nan {k : FloatKind} {b : Nat} {s : Bool} {t : Nat} (h : k.format.read b = .nan s t) : fop .sub k b b = qnan k := by
  unfold fop
  rw [floatBits_nan_left (by simp [isnan, FloatKind.decode, h, Ieee.Datum.isNaN])]
  rfl
theorem cmp_qnan (k : FloatKind) : fcmp .eql k (qnan k) 0 = false := by cases k <;> decide +kernel
theorem cmp_00 (k : FloatKind) : fcmp .eql k 0 0 = true := by cases k <;> decide +kernel
def finB (x : Nat) : Bool := fcmp .eql .f32 (fop .sub .f32 x x) 0
theorem sE : Ieee.single.binade = 8388608 ∧ Ieee.single.infRung = 2139095040 ∧ Ieee.single.leastPlace = -149 ∧ Ieee.single.fractionBits = 23 ∧ Ieee.single.signWeight = 2147483648 := by decide
/-- float64 of a finite float32 -/
theorem wide {x : Nat} {s : Bool} {m : Nat} {e : Int} (h : Ieee.single.read x = .number s m e) (hm : m < 16777216) (he : -149 ≤ e ∧ e ≤ 104) : cvt .f32 .f64 x = Ieee.double.nearest s m e ∧ val (cvt .f32 .f64 x) = some (Ieee.signed s m (e + 1074).toNat) := by
  have hl : m.log2 ≤ 23 := by
    by_cases h0 : m = 0
    · subst h0; decide
    · exact log2_lt24 h0 hm
  have hv := val_exact s (m := m) (e := e) (by omega) (by omega) (by omega)
  have hc : cvt .f32 .f64 x = Ieee.double.nearest s m e := by
    have hd : FloatKind.f32.decode x = .number s m e := h
    have hi : (Ieee.double.read (Ieee.double.nearest s m e)).isInfinity = false := by
      obtain ⟨s', m', e', hr, _⟩ := read_some hv
      rw [hr]; rfl
    unfold cvt floatToFloatBits
    rw [if_neg (by decide), hd]
    simp only
    rw [show FloatKind.f64.decode (FloatKind.f64.encode (.number s m e)) = Ieee.double.read (Ieee.double.nearest s m e) from rfl, hi]
    rfl
  exact ⟨hc, by rw [hc]; exact hv⟩
theorem wide_nan {x : Nat} {s : Bool} {t : Nat} (h : Ieee.single.read x = .nan s t) : cvt .f32 .f64 x = qnan .f64 := by
  have hd : FloatKind.f32.decode x = .nan s t := h
  unfold cvt floatToFloatBits
  rw [if_neg (by decide), hd]; rfl
theorem wide_inf {x : Nat} {s : Bool} (h : Ieee.single.read x = .infinity s) : Ieee.double.read (cvt .f32 .f64 x) = .infinity s := by
  have hd : FloatKind.f32.decode x = .infinity s := h
  unfold cvt floatToFloatBits
  rw [if_neg (by decide), hd]
  cases s <;> decide +kernel
theorem finB_cases (x : Nat) : (finB x = true ∧ fcmp .eql .f64 (fop .sub .f64 (cvt .f32 .f64 x) (cvt .f32 .f64 x)) 0 = true ∧ ∃ s m e, Ieee.single.read x = .number s m e ∧ m < 16777216 ∧ -149 ≤ e ∧ e ≤ 104) ∨
    (finB x = false ∧ fcmp .eql .f64 (fop .sub .f64 (cvt .f32 .f64 x) (cvt .f32 .f64 x)) 0 = false) := by
  unfold finB
  rcases read_single x with ⟨s, t, h⟩ | ⟨s, h⟩ | ⟨s, m, e, h, hm, he, he'⟩
  · right
    rw [sub_nan (k := .f32) h, wide_nan h]
    exact ⟨cmp_qnan _, by rw [sub_nan (k := .f64) (s := false) (t := 2251799813685248) (by decide +kernel)]; exact cmp_qnan _⟩
  · right
    rw [sub_inf (k := .f32) h, sub_inf (k := .f64) (wide_inf h)]
    exact ⟨cmp_qnan _, cmp_qnan _⟩
  · left
    obtain ⟨_, hv⟩ := wide h hm ⟨he, he'⟩
    obtain ⟨s', m', e', hr, _⟩ := read_some hv
    rw [sub_self (k := .f32) h, sub_self (k := .f64) hr]
    exact ⟨cmp_00 _, cmp_00 _, s, m, e, h, hm, he, he'⟩
theorem finW (x : Nat) : fcmp .eql .f64 (fop .sub .f64 (cvt .f32 .f64 x) (cvt .f32 .f64 x)) 0 = finB x := by
  rcases finB_cases x with ⟨h1, h2, _⟩ | ⟨h1, h2⟩ <;> rw [h1, h2]
/-- comparisons of finite numbers do not mind widening -/
theorem cmp_wide {op : BinOp} {x y : Nat} (hx : finB x = true) (hy : finB y = true) : fcmp op .f64 (cvt .f32 .f64 x) (cvt .f32 .f64 y) = fcmp op .f32 x y := by
  rcases finB_cases x with ⟨_, _, s, m, e, h, hm, he⟩ | ⟨h1, _⟩
  · rcases finB_cases y with ⟨_, _, t, n, j, g, hn, hj⟩ | ⟨h1, _⟩
    · have e1 : FloatKind.f64.format.order (cvt .f32 .f64 x) (cvt .f32 .f64 y) = FloatKind.f32.format.order x y := by
        rw [order_val (wide h hm he).2 (wide g hn hj).2]
        show _ = (Ieee.single.read x).order (Ieee.single.read y)
        rw [h, g, datum_order (by omega) (by omega)]
      unfold fcmp
      rw [e1]
    · rw [h1] at hy; cases hy
  · rw [h1] at hx; cases hx

/-! ### one value, one word -/
theorem log2_scale {m : Nat} (h : m ≠ 0) (k : Nat) : (m * 2 ^ k).log2 = m.log2 + k := by
  have h0 : m * 2 ^ k ≠ 0 := Nat.mul_ne_zero h (by have := Nat.two_pow_pos k; omega)
  have h1 : m.log2 + k ≤ (m * 2 ^ k).log2 := (Nat.le_log2 h0).2 (by rw [Nat.pow_add]; exact Nat.mul_le_mul_right _ (Nat.log2_self_le h))
  have h2 : (m * 2 ^ k).log2 < m.log2 + k + 1 := (Nat.log2_lt h0).2 (by
    rw [show m.log2 + k + 1 = m.log2 + 1 + k by omega, Nat.pow_add]
    exact Nat.mul_lt_mul_of_pos_right Nat.lt_log2_self (Nat.two_pow_pos k))
  omega
theorem cut_scale (s : Bool) {n : Nat} (h : n ≠ 0) (d k : Nat) : Ieee.Toward.even.cut s (n * 2 ^ k) (d + k) = Ieee.Toward.even.cut s n d := by
  unfold Ieee.Toward.cut
  dsimp only
  rw [log2_scale h, show min (d + k) (n.log2 + k + 2) = min d (n.log2 + 2) + k by omega, Nat.one_shiftLeft, Nat.one_shiftLeft]
  generalize min d (n.log2 + 2) = u
  have hk := Nat.two_pow_pos k
  rw [Nat.pow_add, Nat.mul_div_mul_right _ _ hk, Nat.mul_mod_mul_right]
  congr 2
  have e1 : decide (2 ^ u * 2 ^ k < 2 * (n % 2 ^ u * 2 ^ k)) = decide (2 ^ u < 2 * (n % 2 ^ u)) := by
    rw [← Nat.mul_assoc]
    exact decide_eq_decide.2 (Nat.mul_lt_mul_right hk)
  have e2 : (2 ^ u * 2 ^ k == 2 * (n % 2 ^ u * 2 ^ k)) = (2 ^ u == 2 * (n % 2 ^ u)) := by
    rw [← Nat.mul_assoc, Bool.eq_iff_iff, beq_iff_eq, beq_iff_eq]
    exact ⟨fun h => Nat.eq_of_mul_eq_mul_right hk h, fun h => congrArg (· * 2 ^ k) h⟩
  rw [e1, e2]
theorem nearest_scale (f : Ieee.Format) (s : Bool) (m k : Nat) (e : Int) : f.nearest s (m * 2 ^ k) (e - k) = f.nearest s m e := by
  by_cases h : m = 0
  · subst h; simp [Ieee.Format.nearest]
  · have hk := Nat.two_pow_pos k
    unfold Ieee.Format.nearest
    rw [if_neg h, if_neg (Nat.mul_ne_zero h (by omega))]
    dsimp only
    rw [log2_scale h, show e - (k : Int) + ((m.log2 + k : Nat) : Int) - f.fractionBits = e + m.log2 - f.fractionBits by omega]
    generalize max (e + (m.log2 : Int) - f.fractionBits) f.leastPlace = last
    congr 2
    congr 1
    by_cases h1 : last ≤ e - k
    · rw [show (last - (e - k)).toNat = 0 by omega, show (last - e).toNat = 0 by omega, cut_zero, cut_zero, Nat.shiftLeft_eq, Nat.shiftLeft_eq, Nat.mul_assoc, ← Nat.pow_add]
      congr 2
      omega
    · rw [show (e - k - last).toNat = 0 by omega, Nat.shiftLeft_zero]
      by_cases h2 : last ≤ e
      · rw [show (last - e).toNat = 0 by omega, Nat.shiftLeft_eq]
        have := cut_scale s (n := m * 2 ^ (e - last).toNat) (Nat.mul_ne_zero h (by have := Nat.two_pow_pos (e - last).toNat; omega)) 0 (last - (e - k)).toNat
        rw [Nat.mul_assoc, ← Nat.pow_add, show (e - last).toNat + (last - (e - k)).toNat = k by omega, Nat.zero_add] at this
        exact this
      · rw [show (e - last).toNat = 0 by omega, Nat.shiftLeft_zero, show (last - (e - k)).toNat = (last - e).toNat + k by omega]
        exact cut_scale s h _ _
/-- the same value: the same word -/
theorem nearest_same (f : Ieee.Format) (s : Bool) {m n : Nat} {i j : Int} (h : m * 2 ^ (i - min i j).toNat = n * 2 ^ (j - min i j).toNat) : f.nearest s m i = f.nearest s n j := by
  rw [← nearest_scale f s m (i - min i j).toNat i, ← nearest_scale f s n (j - min i j).toNat j, h]
  congr 1
  omega
end Go.Proofs.Ytnonlibekcacgaa.En
