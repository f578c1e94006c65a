/- The sine of the program and of the reference at every number of turns: one value, and it can be narrowed. -/
import Derived.Test.YtnonlibekcacgaaEngW
import Derived.Test.YtnonlibekcacgaaLib
import Derived.Test.YtnonlibekcacgaaRows
namespace Go.Proofs.Ytnonlibekcacgaa.En
open Go
set_option linter.unusedVariables false
set_option maxRecDepth 100000
theorem all_take {α : Type} {p : α → Bool} {xs : List α} {d : α} {i : Nat} (hi : i < xs.length) (h : (xs.take i).all p = true) (hx : p (xs.getD i d) = true) : (xs.take (i + 1)).all p = true := by
  rw [List.take_succ_eq_append_getElem hi, List.all_append, h, Bool.true_and]
  simp only [List.getD_eq_getElem?_getD, List.getElem?_eq_getElem hi, Option.getD_some] at hx
  simp [hx]
theorem all_false {α : Type} {p : α → Bool} {xs : List α} {d : α} {i : Nat} (hi : i < xs.length) (hx : p (xs.getD i d) = false) : xs.all p = false := by
  rw [List.all_eq_false]
  exact ⟨xs.getD i d, by rw [List.getD_eq_getElem?_getD, List.getElem?_eq_getElem hi]; exact List.getElem_mem _, by rw [hx]; decide⟩
theorem two_false {u v i : Nat} (hi : i < 2) (h : finB ([u, v].getD i 0) = false) : (finB u && finB v) = false := by
  rcases i with _ | _ | i
  · have h' : finB u = false := h
    rw [h']; rfl
  · have h' : finB v = false := h
    rw [h', Bool.and_false]
  · omega
theorem read_abs64 {t : Nat} {s : Bool} {m : Nat} {e : Int} (h : Ieee.double.read t = .number s m e) : Ieee.double.read (absF t) = .number false m e := by
  obtain ⟨eb, ei, el, ef, es⟩ := dE
  rw [absF_eq]
  unfold Ieee.Format.read at h ⊢
  dsimp only at h ⊢
  rw [eb, ei, el, es] at h ⊢
  have hd : t % 9223372036854775808 / 9223372036854775808 = 0 := Nat.div_eq_of_lt (Nat.mod_lt _ (by decide))
  rw [Nat.mod_mod, hd, show ((0 % 2 : Nat) == 1) = false from rfl]
  generalize t % 9223372036854775808 = r at *
  split at h
  · rename_i hlt
    simp only [Ieee.Datum.number.injEq] at h
    rw [if_pos hlt, h.2.1, h.2.2]
  · rename_i hge
    rw [if_neg hge]
    split at h
    · rename_i hlt
      simp only [Ieee.Datum.number.injEq] at h
      rw [if_pos hlt, h.2.1, h.2.2]
    · split at h
      · exact Ieee.Datum.noConfusion h
      · exact Ieee.Datum.noConfusion h
@[irreducible] def P2 (k : Nat) : Nat := 2 ^ k
theorem P2_def (k : Nat) : P2 k = 2 ^ k := by unfold P2; rfl
theorem P2_add (a b : Nat) : P2 (a + b) = P2 a * P2 b := by rw [P2_def, P2_def, P2_def, Nat.pow_add]
theorem P2_pos (a : Nat) : 0 < P2 a := by rw [P2_def]; exact Nat.two_pow_pos a
theorem P2_le {a b : Nat} (h : a ≤ b) : P2 a ≤ P2 b := by rw [P2_def, P2_def]; exact Nat.pow_le_pow_right (by decide) h
theorem P2_succ (a : Nat) : P2 (a + 1) = 2 * P2 a := by rw [P2_def, P2_def, Nat.pow_succ, Nat.mul_comm]
theorem signed_P (s : Bool) (m u v : Nat) : Ieee.signed s m (u + v) = Ieee.signed s m u * ((P2 v : Nat) : Int) := by rw [P2_def]; exact signed_add s m u v
theorem add_P {a b : Nat} {x y : Int} (ha : val a = some x) (hb : val b = some y) {B : Nat} (hB : B ≤ 2070) (h : (x + y).natAbs ≤ P2 B) :
    ∃ z, val (fop .add .f64 a b) = some z ∧ z.natAbs ≤ P2 B ∧ (0 ≤ x + y → 0 ≤ z) ∧ (x + y ≤ 0 → z ≤ 0) := by
  rw [P2_def] at h ⊢; exact val_add ha hb hB h
theorem sub_P {a b : Nat} {x y : Int} (ha : val a = some x) (hb : val b = some y) {B : Nat} (hB : B ≤ 2070) (h : (x - y).natAbs ≤ P2 B) :
    ∃ z, val (fop .sub .f64 a b) = some z ∧ z.natAbs ≤ P2 B ∧ (0 ≤ x - y → 0 ≤ z) ∧ (x - y ≤ 0 → z ≤ 0) := by
  rw [P2_def] at h ⊢; exact val_sub ha hb hB h
theorem mul_P {a b : Nat} {x y : Int} (ha : val a = some x) (hb : val b = some y) {B C : Nat} (hB : B ≤ 2070) (hC : C = B + 1074) (h : x.natAbs * y.natAbs ≤ P2 C) :
    ∃ z, val (fop .mul .f64 a b) = some z ∧ z.natAbs ≤ P2 B ∧ (0 ≤ x → 0 ≤ y → 0 ≤ z) := by
  rw [P2_def] at h ⊢; subst hC; exact val_mul ha hb hB h
theorem quo_P {a b : Nat} {x y : Int} (ha : val a = some x) (hb : val b = some y) {C D : Nat} (hC : C ≤ 900) (hD : D = C + 1074) (hy : y ≠ 0) (h : x.natAbs ≤ y.natAbs * P2 C) :
    ∃ z, val (fop .quo .f64 a b) = some z ∧ z.natAbs ≤ P2 D ∧ (0 ≤ x → 0 ≤ y → 0 ≤ z) := by
  rw [P2_def] at h ⊢; subst hD; exact val_quo ha hb hC hy h
theorem sqrt_P {a : Nat} {x : Int} (ha : val a = some x) (hx : 0 ≤ x) {K C D : Nat} (hK : K ≤ 400) (hC : C = 2 * K + 1074) (hD : D = K + 1 + 1074) (h : x.natAbs ≤ P2 C) :
    ∃ r z, FloatKind.f64.format.sqrt a = some r ∧ val r = some z ∧ z.natAbs ≤ P2 D ∧ 0 ≤ z := by
  rw [P2_def] at h ⊢; subst hC; subst hD; exact val_sqrt ha hx hK h
/-! ### what the sine's numbers stand for -/
theorem neg_read (b : Nat) : Ieee.double.read (Op.negFloat .f64 b) = (Ieee.double.read b).opposite := by
  have hs : Ieee.double.signWeight = 2 ^ 63 := rfl
  have hn : Op.negFloat .f64 b = b ^^^ 2 ^ 63 := by unfold Op.negFloat; rfl
  have e1 : (b ^^^ 2 ^ 63) % 2 ^ 63 = b % 2 ^ 63 := by rw [Nat.xor_mod_two_pow, Nat.mod_self, Nat.xor_zero]
  have e2 : ((b ^^^ 2 ^ 63) / 2 ^ 63 % 2 == 1) = !(b / 2 ^ 63 % 2 == 1) := by
    have h1 := Nat.testBit_xor b (2 ^ 63) 63
    rw [Nat.testBit_two_pow_self] at h1
    have h2 : ∀ x : Nat, (x / 2 ^ 63 % 2 == 1) = x.testBit 63 := fun x => by
      rw [Nat.testBit_eq_decide_div_mod_eq]; exact (Bool.eq_iff_iff.2 (by simp))
    rw [h2, h2, h1]
    cases b.testBit 63 <;> rfl
  rw [hn]
  unfold Ieee.Format.read
  dsimp only
  rw [hs, e1, e2]
  split
  · rfl
  · split
    · rfl
    · split <;> rfl
theorem val_neg {b : Nat} {x : Int} (h : val b = some x) : val (Op.negFloat .f64 b) = some (-x) := by
  obtain ⟨s, m, e, hr, _, rfl⟩ := read_some h
  unfold val
  rw [neg_read, hr, ← signed_not]
  rfl
/-- not too great for 32 bits -/
theorem okcvt_val {b : Nat} {x : Int} (h : val b = some x) (hx : x.natAbs ≤ P2 1174) : okcvt .f64 .f32 b = true := by
  obtain ⟨s, m, e, hr, he, rfl⟩ := read_some h
  rw [signed_abs] at hx
  obtain ⟨eb, ei, el, ef, es⟩ := sE
  have hd : FloatKind.f64.decode b = .number s m e := hr
  have hi : (Ieee.single.read (Ieee.single.nearest s m e)).isInfinity = false := by
    by_cases h0 : m = 0
    · subst h0
      have : Ieee.single.nearest s 0 e = Ieee.single.word s 0 := by unfold Ieee.Format.nearest; rfl
      rw [this]
      exact isInf_word _ (by decide) _ _ (by decide)
    · have h1 : m.log2 + (e + 1074).toNat ≤ 1174 := by
        obtain ⟨C, hC⟩ : ∃ C : Nat, C = 1174 := ⟨_, rfl⟩
        rw [← hC, P2_def] at hx
        rw [← hC]
        refine (Nat.pow_le_pow_iff_right (a := 2) (by decide)).1 ?_
        rw [Nat.pow_add]
        exact Nat.le_trans (Nat.mul_le_mul_right _ (Nat.log2_self_le h0)) hx
      clear hx
      have hlt := Nat.lt_log2_self (n := m)
      unfold Ieee.Format.nearest
      rw [if_neg h0]
      dsimp only
      refine isInf_word _ (by decide) _ _ ?_
      simp only [eb, ei, el, ef]
      obtain ⟨last, hl, hl1, hl2⟩ : ∃ last : Int, max (e + (m.log2 : Int) - (23 : Nat)) (-149) = last ∧ -149 ≤ last ∧ last ≤ 77 ∧ e + m.log2 - 23 ≤ last := ⟨_, rfl, by omega, by omega, by omega⟩
      rw [hl]
      have hk := cut_le s (m <<< (e - last).toNat) (last - e).toNat 24 (by
        rw [Nat.shiftLeft_eq]
        refine Nat.le_trans (Nat.mul_le_mul_right _ (Nat.le_of_lt hlt)) ?_
        rw [← Nat.pow_add]
        exact Nat.pow_le_pow_right (by decide) (by omega))
      rw [show (2 : Nat) ^ 24 = 16777216 by decide] at hk
      generalize Ieee.Toward.even.cut s (m <<< (e - last).toNat) (last - e).toNat = K at hk ⊢
      have hr2 : (last - -149).toNat ≤ 226 := by omega
      generalize (last - -149).toNat = R at hr2 ⊢
      clear hl1 hl2 hl h1 hlt hr hd h
      omega
  unfold okcvt floatToFloatBits
  rw [if_neg (by decide), hd]
  simp only
  rw [show FloatKind.f32.decode (FloatKind.f32.encode (.number s m e)) = Ieee.single.read (Ieee.single.nearest s m e) from rfl, hi]
  simp
theorem okcvt_nan {b : Nat} (h : isnan .f64 b = true) : okcvt .f64 .f32 b = true := by simp [okcvt, h]
def valOf (s : Bool) (m : Nat) (e : Int) : Int := Ieee.signed s m (e + 1074).toNat
theorem val_of_read {b : Nat} {s : Bool} {m : Nat} {e : Int} (h : Ieee.double.read b = .number s m e) : val b = some (Ieee.signed s m (e + 1074).toNat) := by
  unfold val; rw [h]; rfl
theorem val_one : val 4607182418800017408 = some ((P2 1074 : Nat) : Int) := by
  rw [val_of_read (s := false) (m := 4503599627370496) (e := -52) (by decide +kernel), P2_def]
  decide +kernel
theorem val_half : val 4602678819172646912 = some ((P2 1073 : Nat) : Int) := by
  rw [val_of_read (s := false) (m := 4503599627370496) (e := -53) (by decide +kernel), P2_def]
  decide +kernel
theorem val_quart : val 4598175219545276416 = some ((P2 1072 : Nat) : Int) := by
  rw [val_of_read (s := false) (m := 4503599627370496) (e := -54) (by decide +kernel), P2_def]
  decide +kernel
theorem val_big : val 4841369599423283200 = some ((P2 1126 : Nat) : Int) := by
  rw [val_of_read (s := false) (m := 4503599627370496) (e := 0) (by decide +kernel), P2_def]
  decide +kernel
theorem val_nbig : val 14064741636278059008 = some (-((P2 1126 : Nat) : Int)) := by
  rw [val_of_read (s := true) (m := 4503599627370496) (e := 0) (by decide +kernel), P2_def]
  decide +kernel
theorem val_0 : val 0 = some 0 := by
  rw [val_of_read (s := false) (m := 0) (e := -1074) (by decide +kernel)]
  decide +kernel
theorem val_twopi : ∃ p : Int, val 4618760256179416344 = some p ∧ p.natAbs ≤ P2 1077 := by
  refine ⟨_, val_of_read (s := false) (m := 7074237752028440) (e := -50) (by decide +kernel), ?_⟩
  rw [P2_def]
  decide +kernel
/-- finite, and below 2^52 -/
def Small (t : Nat) : Prop := ∃ v : Int, val t = some v ∧ v.natAbs < P2 1126
def whole (t : Nat) : Int := ((Ieee.double.read t).toInt .zero).getD 0
def truncF (t : Nat) : Nat := FloatKind.f64.encode ((FloatKind.f64.decode t).integral .zero)
theorem zero_cut {s : Bool} (m : Nat) {e : Int} (he : -1074 ≤ e) :
    Ieee.Toward.zero.cut s (m <<< e.toNat) (-e).toNat * P2 1074 ≤ m * 2 ^ (e + 1074).toNat ∧ m * 2 ^ (e + 1074).toNat < (Ieee.Toward.zero.cut s (m <<< e.toNat) (-e).toNat + 1) * P2 1074 := by
  rw [P2_def]
  obtain ⟨c, hc⟩ : ∃ c : Nat, c = 1074 := ⟨_, rfl⟩
  rw [← hc]
  have hp := Nat.two_pow_pos c
  unfold Ieee.Toward.cut
  dsimp only
  simp only [Bool.toNat_false, Nat.add_zero]
  by_cases h : 0 ≤ e
  · rw [show (-e).toNat = 0 by omega, Nat.zero_min, Nat.shiftLeft_zero, Nat.div_one, Nat.shiftLeft_eq, show (e + 1074).toNat = e.toNat + c by omega, Nat.pow_add, ← Nat.mul_assoc, Nat.add_mul]
    exact ⟨Nat.le_refl _, by omega⟩
  · rw [show e.toNat = 0 by omega, Nat.shiftLeft_zero, Nat.one_shiftLeft]
    by_cases hd : (-e).toNat ≤ m.log2 + 2
    · rw [Nat.min_eq_left hd]
      have hsplit : c = (-e).toNat + (e + 1074).toNat := by omega
      have hq := Nat.two_pow_pos (e + 1074).toNat
      have h1 := Nat.div_add_mod m (2 ^ (-e).toNat)
      have h2 := Nat.mod_lt m (Nat.two_pow_pos (-e).toNat)
      generalize m / 2 ^ (-e).toNat = d at *
      generalize m % 2 ^ (-e).toNat = r at *
      rw [hsplit, Nat.pow_add]
      have h3 : (d + 1) * (2 ^ (-e).toNat * 2 ^ (e + 1074).toNat) = (2 ^ (-e).toNat * d + 2 ^ (-e).toNat) * 2 ^ (e + 1074).toNat := by
        rw [← Nat.mul_assoc, Nat.add_mul, Nat.one_mul, Nat.mul_comm d]
      have h4 : d * (2 ^ (-e).toNat * 2 ^ (e + 1074).toNat) = (2 ^ (-e).toNat * d) * 2 ^ (e + 1074).toNat := by rw [← Nat.mul_assoc, Nat.mul_comm d]
      rw [h3, h4, ← h1]
      exact ⟨Nat.mul_le_mul_right _ (by omega), Nat.mul_lt_mul_of_pos_right (by omega) hq⟩
    · rw [Nat.min_eq_right (by omega)]
      have h0 : m / 2 ^ (m.log2 + 2) = 0 := Nat.div_eq_of_lt (Nat.lt_of_lt_of_le Nat.lt_log2_self (Nat.pow_le_pow_right (by decide) (by omega)))
      rw [h0, Nat.zero_mul, Nat.zero_add, Nat.one_mul]
      refine ⟨Nat.zero_le _, ?_⟩
      refine Nat.lt_of_lt_of_le (Nat.mul_lt_mul_of_pos_right (Nat.lt_log2_self (n := m)) (Nat.two_pow_pos _)) ?_
      rw [← Nat.pow_add]
      exact Nat.pow_le_pow_right (by decide) (by omega)
/-- the whole part of a small number: exact in 64 bits, and less than 1 away -/
theorem whole_ok {t : Nat} {v : Int} (h : val t = some v) (hv : v.natAbs < P2 1126) :
    ∃ M : Nat, M < 2 ^ 52 ∧ (whole t = M ∨ whole t = -(M : Int)) ∧ M * P2 1074 ≤ v.natAbs ∧ v.natAbs < (M + 1) * P2 1074 ∧ (v < 0 → whole t = -(M : Int)) ∧ (0 ≤ v → whole t = M) ∧
      floatToIntVal .f64 t .i64 = some (whole t) ∧ val (FloatKind.nearest .f64 (whole t)) = some (whole t * ((P2 1074 : Nat) : Int)) ∧
      ((fcmp .eql .f64 (truncF t) 0 = true ∧ FloatKind.nearest .f64 (whole t) = 0) ∨ (fcmp .eql .f64 (truncF t) 0 = false ∧ truncF t = FloatKind.nearest .f64 (whole t))) := by
  obtain ⟨s, m, e, hr, he, rfl⟩ := read_some h
  rw [signed_abs] at hv
  obtain ⟨h1, h2⟩ := zero_cut (s := s) m he
  have hw : whole t = Ieee.signed s (Ieee.Toward.zero.cut s (m <<< e.toNat) (-e).toNat) 0 := by unfold whole; rw [hr]; rfl
  have ht : truncF t = Ieee.double.nearest s (Ieee.Toward.zero.cut s (m <<< e.toNat) (-e).toNat) 0 := by
    have hd : FloatKind.f64.decode t = .number s m e := hr
    unfold truncF; rw [hd]; rfl
  have hint : (FloatKind.f64.decode t).toInt .zero = some (whole t) := by
    have hd : FloatKind.f64.decode t = .number s m e := hr
    rw [hd, hw]; rfl
  rw [signed_abs]
  have hsg : (Ieee.signed s m (e + 1074).toNat < 0 → s = true) ∧ (0 ≤ Ieee.signed s m (e + 1074).toNat → s = false ∨ m = 0) := by
    refine ⟨fun hneg => ?_, fun hpos => signed_sign hpos⟩
    cases s
    · have := signed_nonneg m (e + 1074).toNat; omega
    · rfl
  have hm0 : m = 0 → Ieee.Toward.zero.cut s (m <<< e.toNat) (-e).toNat = 0 := fun h0 => by
    rw [h0, Nat.zero_mul] at h1
    have := P2_pos 1074
    rcases Nat.mul_eq_zero.1 (Nat.le_zero.1 h1) with h3 | h3
    · rw [h0]; exact h3
    · omega
  generalize Ieee.Toward.zero.cut s (m <<< e.toNat) (-e).toNat = M at *
  have hM : M < 2 ^ 52 := by
    have h3 : M * P2 1074 < 2 ^ 52 * P2 1074 := by
      rw [← P2_def 52, ← P2_add]; exact Nat.lt_of_le_of_lt h1 hv
    exact Nat.lt_of_mul_lt_mul_right h3
  have hab : whole t = M ∨ whole t = -(M : Int) := by rw [hw, sgn0]; cases s <;> simp
  have hnat : (whole t).natAbs = M := by rcases hab with h3 | h3 <;> rw [h3] <;> simp
  have hl : M.log2 ≤ 52 := by
    by_cases h0 : M = 0
    · rw [h0]; decide
    · have := (Nat.log2_lt h0 (k := 52)).2 hM; omega
  have hval : ∀ b : Bool, val (Ieee.double.nearest b M 0) = some (Ieee.signed b M 0 * ((P2 1074 : Nat) : Int)) := fun b => by
    rw [val_exact b hl (by omega) (by omega), show ((0 : Int) + 1074).toNat = 0 + 1074 from rfl, signed_P]
  have hnear : FloatKind.nearest .f64 (whole t) = Ieee.double.nearest (whole t < 0) M 0 := by
    unfold FloatKind.nearest; rw [hnat]; rfl
  have hsw : Ieee.signed (decide (whole t < 0)) M 0 = whole t := by
    rw [sgn0]
    by_cases hneg : whole t < 0
    · rw [decide_eq_true hneg, if_pos rfl]; omega
    · rw [decide_eq_false hneg]
      simp only [Bool.false_eq_true, if_false]; omega
  refine ⟨M, hM, hab, h1, h2, fun hneg => ?_, fun hpos => ?_, ?_, ?_, ?_⟩
  · rw [hw, hsg.1 hneg, sgn0]; rfl
  · rcases hsg.2 hpos with h3 | h3
    · rw [hw, h3, sgn0]; rfl
    · rw [hw, hm0 h3, sgn0]; cases s <;> rfl
  · unfold floatToIntVal
    rw [hint]
    have : (2 : Nat) ^ 52 = 4503599627370496 := by decide
    have hmin : IntKind.i64.min = -9223372036854775808 := by decide
    have hmax : IntKind.i64.max = 9223372036854775807 := by decide
    simp only [hmin, hmax]
    rw [if_pos (by omega)]
  · rw [hnear, hval, hsw]
  · have hv0 : fcmp .eql .f64 (truncF t) 0 = decide (Ieee.signed s M 0 * ((P2 1074 : Nat) : Int) = 0) := by rw [ht]; exact fcmp_eql (hval s) val_0
    have hp : ((P2 1074 : Nat) : Int) ≠ 0 := by have := P2_pos 1074; omega
    by_cases h0 : M = 0
    · left
      refine ⟨by rw [hv0, h0, signed_zero]; simp, ?_⟩
      have : whole t = 0 := by omega
      rw [this]; decide +kernel
    · right
      have hne : Ieee.signed s M 0 ≠ 0 := fun hz => by
        have := signed_abs s M 0
        rw [hz] at this; simp at this; omega
      refine ⟨by rw [hv0]; exact decide_eq_false (fun hz => by rcases Int.mul_eq_zero.1 hz with h3 | h3; exact hne h3; exact hp h3), ?_⟩
      rw [ht, hnear]
      have hs : decide (whole t < 0) = s := by
        rw [hw, sgn0]
        cases s
        · simp only [Bool.false_eq_true, if_false]; exact decide_eq_false (by omega)
        · simp only [if_true]; exact decide_eq_true (by omega)
      rw [hs]
def fr0 (t : Nat) : Nat := fop .sub .f64 t (FloatKind.nearest .f64 (whole t))
def fr (t : Nat) : Nat := if fcmp .lss .f64 (fr0 t) 0 = true then fop .add .f64 (fr0 t) 4607182418800017408 else fr0 t
theorem fr_t {t : Nat} (h : fcmp .lss .f64 (fr0 t) 0 = true) : fr t = fop .add .f64 (fr0 t) 4607182418800017408 := if_pos h
theorem fr_f {t : Nat} (h : fcmp .lss .f64 (fr0 t) 0 = false) : fr t = fr0 t := if_neg (by rw [h]; decide)
theorem fr_ok {t : Nat} (h : Small t) : ∃ z : Int, val (fr t) = some z ∧ 0 ≤ z ∧ z.natAbs ≤ P2 1074 := by
  obtain ⟨v, hv, hlt⟩ := h
  obtain ⟨M, _, _, h1, h2, h3, h4, _, hw, _⟩ := whole_ok hv hlt
  have hd : (v - whole t * ((P2 1074 : Nat) : Int)).natAbs ≤ P2 1074 := by
    obtain ⟨U, hU⟩ : ∃ U : Nat, U = P2 1074 := ⟨_, rfl⟩
    rw [← hU] at h1 h2 ⊢
    rw [Nat.add_mul, Nat.one_mul] at h2
    by_cases hn : v < 0
    · rw [h3 hn, Int.neg_mul, ← Int.natCast_mul]; omega
    · rw [h4 (by omega), ← Int.natCast_mul]; omega
  obtain ⟨z0, g1, g2, _⟩ := sub_P hv hw (B := 1074) (by omega) hd
  have g1' : val (fr0 t) = some z0 := g1
  have hc := fcmp_lss g1' val_0
  by_cases hz : z0 < 0
  · rw [fr_t (by rw [hc]; exact decide_eq_true hz)]
    obtain ⟨z, k1, k2, k3, _⟩ := add_P g1' val_one (B := 1074) (by omega) (by
      obtain ⟨U, hU⟩ : ∃ U : Nat, U = P2 1074 := ⟨_, rfl⟩
      rw [← hU] at g2 ⊢; omega)
    refine ⟨z, k1, k3 ?_, k2⟩
    obtain ⟨U, hU⟩ : ∃ U : Nat, U = P2 1074 := ⟨_, rfl⟩
    rw [← hU] at g2 ⊢; omega
  · rw [fr_f (by rw [hc]; exact decide_eq_false hz)]
    exact ⟨z0, g1', by omega, g2⟩
def below (f : Nat) : Bool := fcmp .geq .f64 f 4602678819172646912
def f2 (f : Nat) : Nat := if below f = true then fop .sub .f64 f 4602678819172646912 else f
theorem f2_t {f : Nat} (h : below f = true) : f2 f = fop .sub .f64 f 4602678819172646912 := if_pos h
theorem f2_f {f : Nat} (h : below f = false) : f2 f = f := if_neg (by rw [h]; decide)
def f3 (f : Nat) : Nat := if fcmp .gtr .f64 (f2 f) 4598175219545276416 = true then fop .sub .f64 4602678819172646912 (f2 f) else f2 f
theorem f3_t {f : Nat} (h : fcmp .gtr .f64 (f2 f) 4598175219545276416 = true) : f3 f = fop .sub .f64 4602678819172646912 (f2 f) := if_pos h
theorem f3_f {f : Nat} (h : fcmp .gtr .f64 (f2 f) 4598175219545276416 = false) : f3 f = f2 f := if_neg (by rw [h]; decide)
theorem pow_half : P2 1074 = 2 * P2 1073 ∧ P2 1073 = 2 * P2 1072 := ⟨P2_succ 1073, P2_succ 1072⟩
theorem f3_ok {f : Nat} {z : Int} (h : val f = some z) (h0 : 0 ≤ z) (hz : z.natAbs ≤ P2 1074) : ∃ y : Int, val (f3 f) = some y ∧ 0 ≤ y ∧ y.natAbs ≤ P2 1072 := by
  obtain ⟨p1, p2⟩ := pow_half
  have hb : below f = decide (((P2 1073 : Nat) : Int) ≤ z) := fcmp_geq h val_half
  have key : ∃ y : Int, val (f2 f) = some y ∧ 0 ≤ y ∧ y.natAbs ≤ P2 1073 := by
    by_cases hc : ((P2 1073 : Nat) : Int) ≤ z
    · rw [f2_t (by rw [hb]; exact decide_eq_true hc)]
      obtain ⟨y, k1, k2, k3, _⟩ := sub_P h val_half (B := 1073) (by omega) (by
        generalize P2 1074 = A at *; generalize P2 1073 = B at *; omega)
      exact ⟨y, k1, k3 (by generalize P2 1073 = B at *; omega), k2⟩
    · rw [f2_f (by rw [hb]; exact decide_eq_false hc)]
      exact ⟨z, h, h0, by generalize P2 1073 = B at *; omega⟩
  obtain ⟨y, g1, g2, g3⟩ := key
  have hg := fcmp_gtr g1 val_quart
  by_cases hc : ((P2 1072 : Nat) : Int) < y
  · rw [f3_t (by rw [hg]; exact decide_eq_true hc)]
    obtain ⟨x, k1, k2, k3, _⟩ := sub_P val_half g1 (B := 1072) (by omega) (by
      generalize P2 1073 = B at *; generalize P2 1072 = C at *; omega)
    exact ⟨x, k1, k3 (by generalize P2 1073 = B at *; omega), k2⟩
  · rw [f3_f (by rw [hg]; exact decide_eq_false hc)]
    exact ⟨y, g1, g2, by generalize P2 1072 = C at *; omega⟩
def facN (j : Nat) : Nat := (2 * (8 - j)) * (2 * (8 - j) + 1)
def sinP (u : Nat) : Nat → Nat
  | 0 => 4607182418800017408
  | j + 1 => fop .sub .f64 4607182418800017408 (fop .quo .f64 (fop .mul .f64 u (sinP u j)) (FloatKind.nearest .f64 (((2 * (8 - j)) * (2 * (8 - j) + 1) : Nat) : Int)))
theorem val_nat {n : Nat} (hn : n < 2 ^ 52) : val (FloatKind.nearest .f64 (n : Int)) = some (((n * P2 1074 : Nat) : Int)) := by
  have hl : n.log2 ≤ 52 := by
    by_cases h0 : n = 0
    · rw [h0]; decide
    · have := (Nat.log2_lt h0 (k := 52)).2 hn; omega
  have e : FloatKind.nearest .f64 (n : Int) = Ieee.double.nearest false n 0 := by
    unfold FloatKind.nearest
    rw [decide_eq_false (by omega), Int.natAbs_natCast]; rfl
  rw [e, val_exact false hl (by omega) (by omega), sgn_eq, sgn0, P2_def, show ((0 : Int) + 1074).toNat = 1074 from rfl]
  simp only [Bool.false_eq_true, if_false]
theorem sinP_ok {u : Nat} {x : Int} (hu : val u = some x) (hx : x.natAbs ≤ P2 1076) : ∀ j, j ≤ 8 → ∃ y : Int, val (sinP u j) = some y ∧ y.natAbs ≤ P2 (1074 + j)
  | 0, _ => ⟨_, val_one, by rw [Int.natAbs_natCast]; exact Nat.le_refl _⟩
  | j + 1, hj => by
    obtain ⟨y, h1, h2⟩ := sinP_ok hu hx j (by omega)
    obtain ⟨a, k1, k2, _⟩ := mul_P hu h1 (B := 1076 + j) (C := 1076 + (1074 + j)) (by omega) (by omega) (by
      rw [P2_add]
      exact Nat.mul_le_mul hx h2)
    have hfac : 4 ≤ (2 * (8 - j)) * (2 * (8 - j) + 1) ∧ (2 * (8 - j)) * (2 * (8 - j) + 1) < 2 ^ 52 := by
      have h3 : 8 - j = 1 ∨ 8 - j = 2 ∨ 8 - j = 3 ∨ 8 - j = 4 ∨ 8 - j = 5 ∨ 8 - j = 6 ∨ 8 - j = 7 ∨ 8 - j = 8 := by omega
      rcases h3 with h3 | h3 | h3 | h3 | h3 | h3 | h3 | h3 <;> rw [h3] <;> decide
    have hc := val_nat hfac.2
    generalize hF : (2 * (8 - j)) * (2 * (8 - j) + 1) = F at *
    have hpos := P2_pos 1074
    obtain ⟨q, q1, q2, _⟩ := quo_P k1 hc (C := j) (D := 1074 + j) (by omega) (by omega) (by
      have : F * P2 1074 ≠ 0 := Nat.mul_ne_zero (by omega) (by omega)
      omega) (by
      rw [Int.natAbs_natCast]
      refine Nat.le_trans k2 ?_
      rw [show 1076 + j = 2 + (1074 + j) by omega, P2_add, P2_add 1074 j, ← Nat.mul_assoc]
      exact Nat.mul_le_mul_right _ (Nat.mul_le_mul_right _ (by rw [P2_def]; exact hfac.1)))
    obtain ⟨z, z1, z2, _⟩ := sub_P val_one q1 (B := 1074 + j + 1) (by omega) (by
      have e1 := P2_succ (1074 + j)
      have e2 : P2 1074 ≤ P2 (1074 + j) := P2_le (by omega)
      omega)
    refine ⟨z, ?_, z2⟩
    rw [sinP, hF]
    exact z1
def sineG (g : Nat) : Nat := fop .mul .f64 (fop .mul .f64 g 4618760256179416344) (sinP (fop .mul .f64 (fop .mul .f64 g 4618760256179416344) (fop .mul .f64 g 4618760256179416344)) 8)
theorem sineG_ok {g : Nat} {y : Int} (h : val g = some y) (hy : y.natAbs ≤ P2 1072) : ∃ z : Int, val (sineG g) = some z ∧ z.natAbs ≤ P2 1083 := by
  obtain ⟨p, hp, hp2⟩ := val_twopi
  obtain ⟨a, a1, a2, _⟩ := mul_P h hp (B := 1075) (C := 1072 + 1077) (by omega) (by omega) (by rw [P2_add]; exact Nat.mul_le_mul hy hp2)
  obtain ⟨u, u1, u2, _⟩ := mul_P a1 a1 (B := 1076) (C := 1075 + 1075) (by omega) (by omega) (by rw [P2_add]; exact Nat.mul_le_mul a2 a2)
  obtain ⟨w, w1, w2⟩ := sinP_ok u1 u2 8 (by omega)
  obtain ⟨z, z1, z2, _⟩ := mul_P a1 w1 (B := 1083) (C := 1075 + (1074 + 8)) (by omega) (by omega) (by rw [P2_add]; exact Nat.mul_le_mul a2 w2)
  exact ⟨z, z1, z2⟩
def sineV (f : Nat) : Nat := if below f = true then Op.negFloat .f64 (sineG (f3 f)) else sineG (f3 f)
theorem sineV_t {f : Nat} (h : below f = true) : sineV f = Op.negFloat .f64 (sineG (f3 f)) := if_pos h
theorem sineV_f {f : Nat} (h : below f = false) : sineV f = sineG (f3 f) := if_neg (by rw [h]; decide)
theorem sineV_ok {t : Nat} (h : Small t) : ∃ z : Int, val (sineV (fr t)) = some z ∧ z.natAbs ≤ P2 1083 := by
  obtain ⟨z, h1, h2, h3⟩ := fr_ok h
  obtain ⟨y, k1, _, k3⟩ := f3_ok h1 h2 h3
  obtain ⟨x, x1, x2⟩ := sineG_ok k1 k3
  cases hb : below (fr t) with
  | true => rw [sineV_t hb]; exact ⟨_, val_neg x1, by rwa [Int.natAbs_neg]⟩
  | false => rw [sineV_f hb]; exact ⟨x, x1, x2⟩
theorem okcvt_sine {t : Nat} (h : Small t) : okcvt .f64 .f32 (sineV (fr t)) = true := by
  obtain ⟨z, h1, h2⟩ := sineV_ok h
  exact okcvt_val h1 (Nat.le_trans h2 (P2_le (by decide)))
/-- the facts that the walks ask for -/
structure FineS (t : Nat) : Prop where
  num : isnan .f64 t = false
  fin : fcmp .eql .f64 (fop .sub .f64 t t) 0 = true
  nin : fcmp .neq .f64 (fop .sub .f64 t t) 0 = false
  ge : fcmp .geq .f64 t 4841369599423283200 = false
  le : fcmp .leq .f64 t 14064741636278059008 = false
  abs : fcmp .geq .f64 (absF t) 4841369599423283200 = false
  int : floatToIntVal .f64 t .i64 = some (whole t)
  tr : (fcmp .eql .f64 (truncF t) 0 = true ∧ FloatKind.nearest .f64 (whole t) = 0) ∨ (fcmp .eql .f64 (truncF t) 0 = false ∧ truncF t = FloatKind.nearest .f64 (whole t))
  ok : okcvt .f64 .f32 (sineV (fr t)) = true
theorem val_abs {b : Nat} {x : Int} (h : val b = some x) : val (absF b) = some ((x.natAbs : Nat) : Int) := by
  obtain ⟨s, m, e, hr, _, rfl⟩ := read_some h
  have hr2 : Ieee.double.read (absF b) = .number false m e := read_abs64 hr
  rw [val_of_read hr2, signed_abs, sgn_eq, sgn0]
  rfl
theorem sub_self64 {t : Nat} {v : Int} (h : val t = some v) : fop .sub .f64 t t = 0 := by
  obtain ⟨s, m, e, hr, _⟩ := read_some h
  exact sub_self (k := .f64) hr
theorem Small.fine {t : Nat} (h : Small t) : FineS t := by
  have h' := h
  obtain ⟨v, hv, hlt⟩ := h'
  obtain ⟨M, _, _, _, _, _, _, hi, _, htr⟩ := whole_ok hv hlt
  have h1 : ((P2 1126 : Nat) : Int) = ((P2 1126 : Nat) : Int) := rfl
  generalize hP : P2 1126 = P at hlt
  refine ⟨isnan_val hv, by rw [sub_self64 hv]; exact cmp_00 _, by rw [sub_self64 hv]; decide +kernel, ?_, ?_, ?_, hi, htr, okcvt_sine h⟩
  · rw [fcmp_geq hv val_big, hP]; exact decide_eq_false (by omega)
  · rw [fcmp_leq hv val_nbig, hP]; exact decide_eq_false (by omega)
  · rw [fcmp_geq (val_abs hv) val_big, hP]; exact decide_eq_false (by omega)
theorem FineS.tr_t {t : Nat} (H : FineS t) (h : fcmp .eql .f64 (truncF t) 0 = true) : FloatKind.nearest .f64 (whole t) = 0 := by
  rcases H.tr with ⟨_, h1⟩ | ⟨h1, _⟩
  · exact h1
  · rw [h] at h1; cases h1
theorem FineS.tr_f {t : Nat} (H : FineS t) (h : fcmp .eql .f64 (truncF t) 0 = false) : FloatKind.nearest .f64 (whole t) = truncF t := by
  rcases H.tr with ⟨h1, _⟩ | ⟨_, h1⟩
  · rw [h] at h1; cases h1
  · exact h1.symm
theorem trunc_run {P : Program} {t : Nat} (hn : isnan .f64 t = false) (w : World) : (Extern.MathFloor.toIntegral "math.archTrunc" .zero #[.float .f64 t]).run P w = .ok (.float .f64 (truncF t)) w := by
  unfold isnan at hn
  unfold truncF
  obtain ⟨X, e⟩ : ∃ X : Bool → Nat → Sem Value, Extern.MathFloor.toIntegral "math.archTrunc" .zero #[.float .f64 t] = (match FloatKind.f64.decode t with | .nan s p => X s p | d => pure (.float .f64 (FloatKind.f64.encode (d.integral .zero)))) := ⟨_, rfl⟩
  rw [e]
  generalize FloatKind.f64.decode t = d at hn ⊢
  cases d with
  | nan s p => cases hn
  | _ => rfl
theorem fac_wrap (j : Nat) (h : j < 8) : IntKind.i64.wrap ((2 * ((8 - j : Nat) : Int)) * (2 * ((8 - j : Nat) : Int) + 1)) = (((2 * (8 - j)) * (2 * (8 - j) + 1) : Nat) : Int) := by
  rcases j with _ | _ | _ | _ | _ | _ | _ | _ | j
  all_goals first | decide +kernel | omega
def sineT (t : Nat) : Nat := if fcmp .neq .f64 (fop .sub .f64 t t) 0 = true then 9221120237041090561 else if fcmp .geq .f64 t 4841369599423283200 = true then 0 else if fcmp .leq .f64 t 14064741636278059008 = true then 0 else sineV (fr t)
theorem not_num {t : Nat} (h : val t = none) : fcmp .neq .f64 (fop .sub .f64 t t) 0 = true := by
  have hc : fcmp .neq .f64 (qnan .f64) 0 = true := by decide +kernel
  cases hr : Ieee.double.read t with
  | nan s p => rw [sub_nan (k := .f64) hr]; exact hc
  | infinity s => rw [sub_inf (k := .f64) hr]; exact hc
  | number s m e => unfold val at h; rw [hr] at h; cases h
theorem tcases (t : Nat) : (fcmp .neq .f64 (fop .sub .f64 t t) 0 = true ∧ sineT t = 9221120237041090561) ∨ (fcmp .neq .f64 (fop .sub .f64 t t) 0 = false ∧ fcmp .geq .f64 t 4841369599423283200 = true ∧ sineT t = 0) ∨
    (fcmp .neq .f64 (fop .sub .f64 t t) 0 = false ∧ fcmp .geq .f64 t 4841369599423283200 = false ∧ fcmp .leq .f64 t 14064741636278059008 = true ∧ sineT t = 0) ∨ (FineS t ∧ Small t ∧ sineT t = sineV (fr t)) := by
  unfold sineT
  cases h0 : fcmp .neq .f64 (fop .sub .f64 t t) 0 with
  | true => left; exact ⟨rfl, if_pos rfl⟩
  | false =>
    right
    cases h1 : fcmp .geq .f64 t 4841369599423283200 with
    | true => left; exact ⟨rfl, rfl, by rw [if_neg (by decide), if_pos rfl]⟩
    | false =>
      right
      cases h2 : fcmp .leq .f64 t 14064741636278059008 with
      | true => left; exact ⟨rfl, rfl, rfl, by rw [if_neg (by decide), if_neg (by decide), if_pos rfl]⟩
      | false =>
        right
        have hs : Small t := by
          cases hv : val t with
          | none => rw [not_num hv] at h0; cases h0
          | some v =>
            refine ⟨v, hv, ?_⟩
            rw [fcmp_geq hv val_big] at h1
            rw [fcmp_leq hv val_nbig] at h2
            have h1' := of_decide_eq_false h1
            have h2' := of_decide_eq_false h2
            generalize P2 1126 = P at *
            omega
        exact ⟨hs.fine, hs, by rw [if_neg (by decide), if_neg (by decide), if_neg (by decide)]⟩
theorem abs_ge {t : Nat} (h : fcmp .geq .f64 t 4841369599423283200 = true ∨ fcmp .leq .f64 t 14064741636278059008 = true) : fcmp .geq .f64 (absF t) 4841369599423283200 = true := by
  cases hr : Ieee.double.read t with
  | nan s p =>
    exfalso
    have hn : isnan .f64 t = true := by
      have hd : FloatKind.f64.decode t = .nan s p := hr
      simp [isnan, hd, Ieee.Datum.isNaN]
    rcases h with h | h <;> (unfold fcmp at h; rw [order_nan_left hn] at h; cases h)
  | infinity s =>
    have hr2 : Ieee.double.read (absF t) = .infinity false := by
      obtain ⟨eb, ei, el, ef, es⟩ := dE
      rw [absF_eq]
      unfold Ieee.Format.read at hr ⊢
      dsimp only at hr ⊢
      rw [eb, ei, el, es] at hr ⊢
      have hd : t % 9223372036854775808 / 9223372036854775808 = 0 := Nat.div_eq_of_lt (Nat.mod_lt _ (by decide))
      rw [Nat.mod_mod, hd, show ((0 % 2 : Nat) == 1) = false from rfl]
      generalize t % 9223372036854775808 = r at *
      split at hr
      · cases hr
      · rename_i g1
        rw [if_neg g1]
        split at hr
        · cases hr
        · rename_i g2
          rw [if_neg g2]
          split at hr
          · rename_i g3; rw [if_pos g3]
          · cases hr
    unfold fcmp
    have ho : FloatKind.f64.format.order (absF t) 4841369599423283200 = some .gt := by
      show (Ieee.double.read (absF t)).order (Ieee.double.read 4841369599423283200) = _
      rw [hr2]
      decide +kernel
    rw [ho]; rfl
  | number s m e =>
    have hv := val_of_read hr
    generalize Ieee.signed s m (e + 1074).toNat = v at hv
    rw [fcmp_geq (val_abs hv) val_big]
    refine decide_eq_true ?_
    rcases h with h | h
    · rw [fcmp_geq hv val_big] at h
      have := of_decide_eq_true h
      generalize P2 1126 = P at *
      omega
    · rw [fcmp_leq hv val_nbig] at h
      have := of_decide_eq_true h
      generalize P2 1126 = P at *
      omega
theorem sineT_ok (t : Nat) : okcvt .f64 .f32 (sineT t) = true := by
  rcases tcases t with ⟨_, e⟩ | ⟨_, _, e⟩ | ⟨_, _, _, e⟩ | ⟨h, _, e⟩
  · rw [e]; decide +kernel
  · rw [e]; decide +kernel
  · rw [e]; decide +kernel
  · rw [e]; exact h.ok
def sineA (x : Nat) : Nat := cvt .f64 .f32 (sineT (cvt .f32 .f64 x))
theorem specFin {w0 : World} {σ : Sg} (x : Nat) :
    FnV Try.prog w0 52 [(.float .f32 x)] σ (.bool (finB x)) := by
  unfold FnV
  refine Fn.of_W 7 Try.func52 rfl Try.ntmps52 rfl ?_
  refine W.seq ?_
  refine W.region ?_
  refine L.v (o_assign (v := (.bool false)) rfl) ?_
  refine L.nil ?_
  refine W.seq ?_
  refine W.region ?_
  refine L.v (o_move (v := (.float .f32 x)) rfl) ?_
  refine L.v (o_move (v := (.float .f32 x)) rfl) ?_
  refine L.v (o_farith (k := .f32) (a := x) (b := x) rfl rfl rfl) ?_
  refine L.v (o_fcmp (k := .f32) (a := fop .sub .f32 x x) (b := 0) rfl rfl rfl rfl) ?_
  refine L.v (o_assign (v := (.bool (fcmp .eql .f32 (fop .sub .f32 x x) 0))) rfl) ?_
  refine L.nil ?_
  refine W.ret ?_
  exact RetK.one σ (.bool (fcmp .eql .f32 (fop .sub .f32 x x) 0)) rfl rfl (Ext.refl _) ⟨rfl, rfl⟩

theorem isFiniteC {w0 : World} {σ : Sg} (t : Nat) :
    FnV Try.prog w0 83 [(.float .f64 t)] σ (.bool (fcmp .eql .f64 (fop .sub .f64 t t) 0)) := by
  unfold FnV
  refine Fn.of_W 7 Try.func83 rfl Try.ntmps83 rfl ?_
  refine W.seq ?_
  refine W.region ?_
  refine L.v (o_assign (v := (.bool false)) rfl) ?_
  refine L.nil ?_
  refine W.seq ?_
  refine W.region ?_
  refine L.v (o_move (v := (.float .f64 t)) rfl) ?_
  refine L.v (o_move (v := (.float .f64 t)) rfl) ?_
  refine L.v (o_farith (k := .f64) (a := t) (b := t) rfl rfl rfl) ?_
  refine L.v (o_fcmp (k := .f64) (a := fop .sub .f64 t t) (b := 0) rfl rfl rfl rfl) ?_
  refine L.v (o_assign (v := (.bool (fcmp .eql .f64 (fop .sub .f64 t t) 0))) rfl) ?_
  refine L.nil ?_
  refine W.ret ?_
  exact RetK.one σ (.bool (fcmp .eql .f64 (fop .sub .f64 t t) 0)) rfl rfl (Ext.refl _) ⟨rfl, rfl⟩

theorem implFin {w0 : World} {σ : Sg} (x : Nat) :
    FnV Try.prog w0 82 [(.float .f32 x)] σ (.bool (finB x)) := by
  unfold FnV
  refine Fn.of_W 6 Try.func82 rfl Try.ntmps82 rfl ?_
  refine W.seq ?_
  refine W.region ?_
  refine L.v (o_assign (v := (.bool false)) rfl) ?_
  refine L.nil ?_
  refine W.seq ?_
  refine W.region ?_
  refine L.v (o_move (v := (.float .f32 x)) rfl) ?_
  refine L.v (o_cvFF (s := .f32) (d := .f64) (a := x) (by rw [Try.underlying24]; rfl) Try.underlying30 rfl (okw x)) ?_
  refine L.v (v := (.bool (fcmp .eql .f64 (fop .sub .f64 (cvt .f32 .f64 x) (cvt .f32 .f64 x)) 0))) (op_call [(.float .f64 (cvt .f32 .f64 x))] Try.call83 rfl (isFiniteC (cvt .f32 .f64 x))) ?_
  refine L.v (o_assign (v := (.bool (fcmp .eql .f64 (fop .sub .f64 (cvt .f32 .f64 x) (cvt .f32 .f64 x)) 0))) rfl) ?_
  refine L.nil ?_
  refine W.ret ?_
  exact RetK.one σ (.bool (fcmp .eql .f64 (fop .sub .f64 (cvt .f32 .f64 x) (cvt .f32 .f64 x)) 0)) rfl rfl (Ext.refl _) ⟨by rw [finW], rfl⟩

theorem areFin2 {w0 : World} {σ : Sg} (b o : Nat) (u v : Nat) (hs : Sl σ 1 (some ⟨b, o, none⟩) ([u, v].map fl)) :
    FnV Try.prog w0 54 [(.slice (some ⟨b, o, none⟩) 2 2)] σ (.bool (finB u && finB v)) := by
  unfold FnV
  refine Fn.of_W 15 Try.func54 rfl Try.ntmps54 rfl ?_
  refine W.seq ?_
  refine W.region ?_
  refine L.v (o_assign (v := (.bool false)) rfl) ?_
  refine L.nil ?_
  refine W.seq ?_
  refine W.seq ?_
  refine W.region ?_
  refine L.v (o_move (v := (.slice (some ⟨b, o, none⟩) 2 2)) rfl) ?_
  refine L.v (o_len (p := (some ⟨b, o, none⟩)) (n := 2) (c := 2) Try.underlying32 rfl) ?_
  refine L.v (o_move (v := (.int .i64 0)) rfl) ?_
  refine L.nil ?_
  refine W.block ?_
  refine W.loop (fun nn tt ss => ∃ (i : Nat), nn = 2 - i ∧ (i ≤ 2) ∧ (([u, v].take i).all finB = true) ∧ FrOk tt [(5, (.slice (some ⟨b, o, none⟩) 2 2)), (6, (.int .i64 2)), (7, (.int .i64 (i : Int)))] ∧ σ = ss) _ ⟨0, rfl, (by omega), (by simp), ⟨rfl, rfl, rfl, trivial⟩, rfl⟩ ?_
  rintro _ t1 _ ⟨i, rfl, hi, hok, f2, rfl⟩
  rw [← frame_ok f2]
  show W _ _ _ _ _ (upd (upd (upd t1 5 (.slice (some ⟨b, o, none⟩) 2 2)) 6 (.int .i64 2)) 7 (.int .i64 (i : Int))) _
  refine W.seq ?_
  refine W.region ?_
  refine L.v (o_ilss (a := (i : Int)) (b := 2) rfl rfl rfl) ?_
  refine L.nil ?_
  refine W.seq ?_
  refine W.cond (b := decide (((i : Int) : Int) < 2)) rfl (fun q3 => ?_) (fun q3 => ?_)
  ·
    have a4 : ((i : Int) : Int) < 2 := of_decide_eq_true q3
    refine W.skip ?_
    refine W.seq ?_
    refine W.block ?_
    refine W.seq ?_
    refine W.region ?_
    refine L.v (o_indexAddr (b := b) (off := o) (n := 2) (c := 2) i Try.underlying32 Try.sizeOf24 rfl rfl (by omega)) ?_
    refine L.v (o_load (b := b) (off := o + i * 1) (v := (.float .f32 ([u, v].getD i 0))) Try.isAgg24 rfl (Rds.fst (Sl.at hs i (by show _ < 2; omega) 0)) rfl) ?_
    refine L.v (o_assign (v := (.float .f32 ([u, v].getD i 0))) rfl) ?_
    refine L.nil ?_
    refine W.seq ?_
    refine W.region ?_
    refine L.v (o_move (v := (.float .f32 ([u, v].getD i 0))) rfl) ?_
    refine L.v (v := (.bool (finB ([u, v].getD i 0)))) (op_call [(.float .f32 ([u, v].getD i 0))] Try.call82 rfl (implFin ([u, v].getD i 0))) ?_
    refine L.v (o_not (b := finB ([u, v].getD i 0)) rfl rfl) ?_
    refine L.nil ?_
    refine W.cond (b := !(finB ([u, v].getD i 0))) rfl (fun q5 => ?_) (fun q5 => ?_)
    ·
      refine W.seq ?_
      refine W.region ?_
      refine L.v (o_assign (v := (.bool false)) rfl) ?_
      refine L.nil ?_
      refine W.ret ?_
      exact RetK.one σ (.bool false) rfl rfl (Ext.refl _) ⟨by rw [two_false (i := i) (by omega) (bn_t q5)], rfl⟩
    ·
      refine W.skip ?_
      refine W.region ?_
      refine L.v (o_iadd (a := (i : Int)) (b := 1) (c := ((i + 1 : Nat) : Int)) rfl rfl (by rw [IntWalk.i64_in _ (by omega)]; try omega)) ?_
      refine L.v (o_move (v := (.int .i64 (((i + 1 : Nat) : Int)))) rfl) ?_
      refine L.nil ?_
      exact ⟨_, (by omega), i + 1, rfl, (by omega), (all_take (xs := [u, v]) (d := 0) (by show i < 2; omega) hok (bn_f q5)), ⟨rfl, rfl, rfl, trivial⟩, rfl⟩
  ·
    have a6 : ¬ (((i : Int) : Int) < 2) := of_decide_eq_false q3
    refine W.exit ?_
    refine W.seq ?_
    refine W.region ?_
    refine L.v (o_assign (v := (.bool true)) rfl) ?_
    refine L.nil ?_
    refine W.ret ?_
    obtain rfl : i = 2 := by omega
    exact RetK.one σ (.bool true) rfl rfl (Ext.refl _) ⟨by have := hok; simp at this; simp [this], rfl⟩

theorem absC {w0 : World} {σ : Sg} (t : Nat) :
    FnV Try.prog w0 85 [(.float .f64 t)] σ (.float .f64 (absF t)) := by
  unfold FnV
  refine Fn.of_W 7 Try.func85 rfl Try.ntmps85 rfl ?_
  refine W.seq ?_
  refine W.region ?_
  refine L.v (o_assign (v := (.float .f64 0)) rfl) ?_
  refine L.nil ?_
  refine W.seq ?_
  refine W.region ?_
  refine L.v (o_move (v := (.float .f64 t)) rfl) ?_
  refine L.cons (o_bits Try.func107 (by kernel_rfl) (by kernel_rfl) (by kernel_rfl) (by kernel_rfl) rfl) ?_
  rintro _ s9 ⟨⟨b', hb', rfl⟩, h9⟩
  rw [h9]
  refine L.v (o_iandNot (c := absI b') rfl rfl rfl) ?_
  refine L.v (o_unbits (b := t) Try.func106 (by kernel_rfl) (by kernel_rfl) (by kernel_rfl) (by kernel_rfl) rfl hb') ?_
  refine L.v (o_assign (v := (.float .f64 (absF t))) rfl) ?_
  refine L.nil ?_
  refine W.ret ?_
  exact RetK.one σ (.float .f64 (absF t)) rfl rfl (Ext.refl _) ⟨rfl, rfl⟩

theorem nanC {w0 : World} {σ : Sg}  :
    FnV Try.prog w0 84 [] σ (.float .f64 9221120237041090561) := by
  unfold FnV
  refine Fn.of_W 2 Try.func84 rfl Try.ntmps84 rfl ?_
  refine W.seq ?_
  refine W.region ?_
  refine L.v (o_assign (v := (.float .f64 0)) rfl) ?_
  refine L.nil ?_
  refine W.seq ?_
  refine W.region ?_
  refine L.v (o_ext1 (v := .int .u64 9221120237041090561) (r := .float .f64 9221120237041090561) (e := Extern.MathFloatBits.float64frombits) Try.func106 (by kernel_rfl) (by kernel_rfl) (by kernel_rfl) (by kernel_rfl) rfl norm_exact_int (fun w => rfl)) ?_
  refine L.v (o_assign (v := (.float .f64 9221120237041090561)) rfl) ?_
  refine L.nil ?_
  refine W.ret ?_
  exact RetK.one σ (.float .f64 9221120237041090561) rfl rfl (Ext.refl _) ⟨rfl, rfl⟩

theorem truncC {w0 : World} {σ : Sg} (t : Nat) (hn : isnan .f64 t = false) :
    FnV Try.prog w0 115 [(.float .f64 t)] σ (.float .f64 (truncF t)) := by
  unfold FnV
  refine Fn.of_W 7 Try.func115 rfl Try.ntmps115 rfl ?_
  refine W.seq ?_
  refine W.region ?_
  refine L.v (o_assign (v := (.float .f64 0)) rfl) ?_
  refine L.nil ?_
  refine W.seq ?_
  refine W.condT (b := true) rfl rfl ?_
  refine W.seq ?_
  refine W.region ?_
  refine L.v (o_move (v := (.float .f64 t)) rfl) ?_
  refine L.v (o_ext1 (e := Extern.MathFloor.toIntegral "math.archTrunc" .zero) Try.func118 (by kernel_rfl) (by kernel_rfl) (by kernel_rfl) (by kernel_rfl) rfl (norm_exact hn) (fun w => trunc_run hn w)) ?_
  refine L.v (o_assign (v := (.float .f64 (truncF t))) rfl) ?_
  refine L.nil ?_
  refine W.ret ?_
  exact RetK.one σ (.float .f64 (truncF t)) rfl rfl (Ext.refl _) ⟨rfl, rfl⟩

theorem fractionC {w0 : World} {σ : Sg} (t : Nat) (H : FineS t) :
    FnV Try.prog w0 108 [(.float .f64 t)] σ (.float .f64 (fr t)) := by
  unfold FnV
  refine Fn.of_W 17 Try.func108 rfl Try.ntmps108 rfl ?_
  refine W.seq ?_
  refine W.region ?_
  refine L.v (o_assign (v := (.float .f64 0)) rfl) ?_
  refine L.nil ?_
  refine W.seq ?_
  refine W.region ?_
  refine L.v (o_move (v := (.float .f64 t)) rfl) ?_
  refine L.v (v := (.float .f64 (truncF t))) (op_call [(.float .f64 t)] Try.call115 rfl (truncC t H.num)) ?_
  refine L.v (o_assign (v := (.float .f64 (truncF t))) rfl) ?_
  refine L.nil ?_
  refine W.seq ?_
  refine W.seq ?_
  refine W.region ?_
  refine L.v (o_move (v := (.float .f64 (truncF t))) rfl) ?_
  refine L.v (o_fcmp (k := .f64) (a := truncF t) (b := 0) rfl rfl rfl rfl) ?_
  refine L.nil ?_
  refine W.join (fun tt ss => FrOk tt [(0, (.float .f64 t)), (3, (.float .f64 (FloatKind.nearest .f64 (whole t))))] ∧ ss = σ) ?_ ?_
  ·
    refine W.cond (b := fcmp .eql .f64 (truncF t) 0) rfl (fun q3 => ?_) (fun q3 => ?_)
    ·
      refine W.region ?_
      refine L.v (o_assign (v := (.float .f64 0)) rfl) ?_
      refine L.nil ?_
      exact ⟨⟨rfl, (by first | (rw [H.tr_t (by assumption)]; rfl) | (rw [H.tr_f (by assumption)]; rfl)), trivial⟩, rfl⟩
    ·
      refine W.skip ?_
      exact ⟨⟨rfl, (by first | (rw [H.tr_t (by assumption)]; rfl) | (rw [H.tr_f (by assumption)]; rfl)), trivial⟩, rfl⟩
  ·
    rintro t2 s9 ⟨f1, e9⟩
    rw [e9]
    replace f1 : (upd (upd t2 0 (.float .f64 t)) 3 (.float .f64 (FloatKind.nearest .f64 (whole t)))) = t2 := frame_ok f1
    rw [← f1]
    clear f1
    refine W.seq ?_
    refine W.region ?_
    refine L.v (o_move (v := (.float .f64 t)) rfl) ?_
    refine L.v (o_move (v := (.float .f64 (FloatKind.nearest .f64 (whole t)))) rfl) ?_
    refine L.v (v := (.float .f64 (fr0 t))) (o_farith (k := .f64) (a := t) (b := FloatKind.nearest .f64 (whole t)) rfl rfl rfl) ?_
    refine L.v (o_assign (v := (.float .f64 (fr0 t))) rfl) ?_
    refine L.nil ?_
    refine W.seq ?_
    refine W.seq ?_
    refine W.region ?_
    refine L.v (o_move (v := (.float .f64 (fr0 t))) rfl) ?_
    refine L.v (o_fcmp (k := .f64) (a := fr0 t) (b := 0) rfl rfl rfl rfl) ?_
    refine L.nil ?_
    refine W.join (fun tt ss => FrOk tt [(4, (.float .f64 (fr t)))] ∧ ss = σ) ?_ ?_
    ·
      refine W.cond (b := fcmp .lss .f64 (fr0 t) 0) rfl (fun q6 => ?_) (fun q6 => ?_)
      ·
        refine W.region ?_
        refine L.v (o_move (v := (.float .f64 (fr0 t))) rfl) ?_
        refine L.v (o_farith (k := .f64) (a := fr0 t) (b := 4607182418800017408) rfl rfl rfl) ?_
        refine L.v (o_assign (v := (.float .f64 (fop .add .f64 (fr0 t) 4607182418800017408))) rfl) ?_
        refine L.nil ?_
        exact ⟨⟨(by first | (rw [fr_t (by assumption)]; rfl) | (rw [fr_f (by assumption)]; rfl)), trivial⟩, rfl⟩
      ·
        refine W.skip ?_
        exact ⟨⟨(by first | (rw [fr_t (by assumption)]; rfl) | (rw [fr_f (by assumption)]; rfl)), trivial⟩, rfl⟩
    ·
      rintro t5 s9 ⟨f4, e9⟩
      rw [e9]
      replace f4 : (upd t5 4 (.float .f64 (fr t))) = t5 := frame_ok f4
      rw [← f4]
      clear f4
      refine W.seq ?_
      refine W.region ?_
      refine L.v (o_move (v := (.float .f64 (fr t))) rfl) ?_
      refine L.v (o_assign (v := (.float .f64 (fr t))) rfl) ?_
      refine L.nil ?_
      refine W.ret ?_
      exact RetK.one σ (.float .f64 (fr t)) rfl rfl (Ext.refl _) ⟨rfl, rfl⟩

theorem specSineW {w0 : World} {σ : Sg} (t : Nat) (H : FineS t) :
    FnV Try.prog w0 81 [(.float .f64 t)] σ (.float .f64 (sineV (fr t))) := by
  unfold FnV
  refine Fn.of_W 67 Try.func81 rfl Try.ntmps81 rfl ?_
  refine W.seq ?_
  refine W.region ?_
  refine L.v (o_assign (v := (.float .f64 0)) rfl) ?_
  refine L.nil ?_
  refine W.seq ?_
  refine W.seq ?_
  refine W.region ?_
  refine L.v (o_move (v := (.float .f64 t)) rfl) ?_
  refine L.v (o_move (v := (.float .f64 t)) rfl) ?_
  refine L.v (o_farith (k := .f64) (a := t) (b := t) rfl rfl rfl) ?_
  refine L.v (o_fcmp (k := .f64) (a := fop .sub .f64 t t) (b := 0) rfl rfl rfl rfl) ?_
  refine L.nil ?_
  refine W.condF (b := fcmp .neq .f64 (fop .sub .f64 t t) 0) rfl H.nin ?_
  refine W.skip ?_
  refine W.seq ?_
  refine W.seq ?_
  refine W.region ?_
  refine L.v (o_move (v := (.float .f64 t)) rfl) ?_
  refine L.v (o_fcmp (k := .f64) (a := t) (b := 4841369599423283200) rfl rfl rfl rfl) ?_
  refine L.v (o_move (v := (.bool (fcmp .geq .f64 t 4841369599423283200))) rfl) ?_
  refine L.gv (j := 2) (d₁ := 16) (b := fcmp .geq .f64 t 4841369599423283200) rfl rfl rfl H.ge (o_move (v := (.float .f64 t)) rfl) ?_
  refine L.gv (j := 2) (d₁ := 16) (b := fcmp .geq .f64 t 4841369599423283200) rfl rfl rfl H.ge (o_fcmp (k := .f64) (a := t) (b := 14064741636278059008) rfl rfl rfl rfl) ?_
  refine L.v (o_pickF (b := fcmp .geq .f64 t 4841369599423283200) (v := (.bool (fcmp .leq .f64 t 14064741636278059008))) rfl H.ge rfl) ?_
  refine L.nil ?_
  refine W.condF (b := fcmp .leq .f64 t 14064741636278059008) rfl H.le ?_
  refine W.skip ?_
  refine W.seq ?_
  refine W.region ?_
  refine L.v (o_move (v := (.float .f64 t)) rfl) ?_
  refine L.v (o_move (v := (.float .f64 t)) rfl) ?_
  refine L.v (o_cvFI (s := .f64) (a := t) (n := whole t) (by rw [Try.underlying30]; rfl) Try.underlying2 rfl H.num H.int) ?_
  refine L.v (o_cvIF (a := whole t) (by rw [Try.underlying2]; rfl) Try.underlying30 rfl) ?_
  refine L.v (v := (.float .f64 (fr0 t))) (o_farith (k := .f64) (a := t) (b := FloatKind.nearest .f64 (whole t)) rfl rfl rfl) ?_
  refine L.v (o_assign (v := (.float .f64 (fr0 t))) rfl) ?_
  refine L.nil ?_
  refine W.seq ?_
  refine W.seq ?_
  refine W.region ?_
  refine L.v (o_move (v := (.float .f64 (fr0 t))) rfl) ?_
  refine L.v (o_fcmp (k := .f64) (a := fr0 t) (b := 0) rfl rfl rfl rfl) ?_
  refine L.nil ?_
  refine W.join (fun tt ss => FrOk tt [(3, (.float .f64 (fr t)))] ∧ ss = σ) ?_ ?_
  ·
    refine W.cond (b := fcmp .lss .f64 (fr0 t) 0) rfl (fun q3 => ?_) (fun q3 => ?_)
    ·
      refine W.region ?_
      refine L.v (o_move (v := (.float .f64 (fr0 t))) rfl) ?_
      refine L.v (o_farith (k := .f64) (a := fr0 t) (b := 4607182418800017408) rfl rfl rfl) ?_
      refine L.v (o_assign (v := (.float .f64 (fop .add .f64 (fr0 t) 4607182418800017408))) rfl) ?_
      refine L.nil ?_
      exact ⟨⟨(by first | (rw [fr_t (by assumption)]; rfl) | (rw [fr_f (by assumption)]; rfl)), trivial⟩, rfl⟩
    ·
      refine W.skip ?_
      exact ⟨⟨(by first | (rw [fr_t (by assumption)]; rfl) | (rw [fr_f (by assumption)]; rfl)), trivial⟩, rfl⟩
  ·
    rintro t2 s9 ⟨f1, e9⟩
    rw [e9]
    replace f1 : (upd t2 3 (.float .f64 (fr t))) = t2 := frame_ok f1
    rw [← f1]
    clear f1
    refine W.seq ?_
    refine W.region ?_
    refine L.v (o_move (v := (.float .f64 (fr t))) rfl) ?_
    refine L.v (v := .bool (below (fr t))) (o_fcmp (k := .f64) (a := fr t) (b := 4602678819172646912) rfl rfl rfl rfl) ?_
    refine L.v (o_assign (v := (.bool (below (fr t)))) rfl) ?_
    refine L.nil ?_
    refine W.seq ?_
    refine W.seq ?_
    refine W.region ?_
    refine L.v (o_move (v := (.bool (below (fr t)))) rfl) ?_
    refine L.nil ?_
    refine W.join (fun tt ss => FrOk tt [(3, (.float .f64 (f2 (fr t)))), (4, (.bool (below (fr t))))] ∧ ss = σ) ?_ ?_
    ·
      refine W.cond (b := below (fr t)) rfl (fun q6 => ?_) (fun q6 => ?_)
      ·
        refine W.region ?_
        refine L.v (o_move (v := (.float .f64 (fr t))) rfl) ?_
        refine L.v (o_farith (k := .f64) (a := fr t) (b := 4602678819172646912) rfl rfl rfl) ?_
        refine L.v (o_assign (v := (.float .f64 (fop .sub .f64 (fr t) 4602678819172646912))) rfl) ?_
        refine L.nil ?_
        exact ⟨⟨(by first | (rw [f2_t (by assumption)]; rfl) | (rw [f2_f (by assumption)]; rfl)), rfl, trivial⟩, rfl⟩
      ·
        refine W.skip ?_
        exact ⟨⟨(by first | (rw [f2_t (by assumption)]; rfl) | (rw [f2_f (by assumption)]; rfl)), rfl, trivial⟩, rfl⟩
    ·
      rintro t5 s9 ⟨f4, e9⟩
      rw [e9]
      replace f4 : (upd (upd t5 3 (.float .f64 (f2 (fr t)))) 4 (.bool (below (fr t)))) = t5 := frame_ok f4
      rw [← f4]
      clear f4
      refine W.seq ?_
      refine W.seq ?_
      refine W.region ?_
      refine L.v (o_move (v := (.float .f64 (f2 (fr t)))) rfl) ?_
      refine L.v (o_fcmp (k := .f64) (a := f2 (fr t)) (b := 4598175219545276416) rfl rfl rfl rfl) ?_
      refine L.nil ?_
      refine W.join (fun tt ss => FrOk tt [(3, (.float .f64 (f3 (fr t)))), (4, (.bool (below (fr t))))] ∧ ss = σ) ?_ ?_
      ·
        refine W.cond (b := fcmp .gtr .f64 (f2 (fr t)) 4598175219545276416) rfl (fun q9 => ?_) (fun q9 => ?_)
        ·
          refine W.region ?_
          refine L.v (o_move (v := (.float .f64 (f2 (fr t)))) rfl) ?_
          refine L.v (o_farith (k := .f64) (a := 4602678819172646912) (b := f2 (fr t)) rfl rfl rfl) ?_
          refine L.v (o_assign (v := (.float .f64 (fop .sub .f64 4602678819172646912 (f2 (fr t))))) rfl) ?_
          refine L.nil ?_
          exact ⟨⟨(by first | (rw [f3_t (by assumption)]; rfl) | (rw [f3_f (by assumption)]; rfl)), rfl, trivial⟩, rfl⟩
        ·
          refine W.skip ?_
          exact ⟨⟨(by first | (rw [f3_t (by assumption)]; rfl) | (rw [f3_f (by assumption)]; rfl)), rfl, trivial⟩, rfl⟩
      ·
        rintro t8 s9 ⟨f7, e9⟩
        rw [e9]
        replace f7 : (upd (upd t8 3 (.float .f64 (f3 (fr t)))) 4 (.bool (below (fr t)))) = t8 := frame_ok f7
        rw [← f7]
        clear f7
        refine W.seq ?_
        refine W.region ?_
        refine L.v (o_move (v := (.float .f64 (f3 (fr t)))) rfl) ?_
        refine L.v (o_farith (k := .f64) (a := f3 (fr t)) (b := 4618760256179416344) rfl rfl rfl) ?_
        refine L.v (o_assign (v := (.float .f64 (fop .mul .f64 (f3 (fr t)) 4618760256179416344))) rfl) ?_
        refine L.nil ?_
        refine W.seq ?_
        refine W.region ?_
        refine L.v (o_move (v := (.float .f64 (fop .mul .f64 (f3 (fr t)) 4618760256179416344))) rfl) ?_
        refine L.v (o_move (v := (.float .f64 (fop .mul .f64 (f3 (fr t)) 4618760256179416344))) rfl) ?_
        refine L.v (o_farith (k := .f64) (a := fop .mul .f64 (f3 (fr t)) 4618760256179416344) (b := fop .mul .f64 (f3 (fr t)) 4618760256179416344) rfl rfl rfl) ?_
        refine L.v (o_assign (v := (.float .f64 (fop .mul .f64 (fop .mul .f64 (f3 (fr t)) 4618760256179416344) (fop .mul .f64 (f3 (fr t)) 4618760256179416344)))) rfl) ?_
        refine L.nil ?_
        refine W.seq ?_
        refine W.region ?_
        refine L.v (o_assign (v := (.float .f64 4607182418800017408)) rfl) ?_
        refine L.nil ?_
        refine W.seq ?_
        refine W.seq ?_
        refine W.region ?_
        refine L.v (o_assign (v := (.int .i64 8)) rfl) ?_
        refine L.nil ?_
        refine W.block ?_
        refine W.loop (fun nn tt ss => ∃ (j : Nat), nn = 8 - j ∧ (j ≤ 8) ∧ FrOk tt [(4, (.bool (below (fr t)))), (5, (.float .f64 (fop .mul .f64 (f3 (fr t)) 4618760256179416344))), (6, (.float .f64 (fop .mul .f64 (fop .mul .f64 (f3 (fr t)) 4618760256179416344) (fop .mul .f64 (f3 (fr t)) 4618760256179416344)))), (7, (.float .f64 (sinP (fop .mul .f64 (fop .mul .f64 (f3 (fr t)) 4618760256179416344) (fop .mul .f64 (f3 (fr t)) 4618760256179416344)) j))), (8, (.int .i64 (((8 - j : Nat) : Int))))] ∧ σ = ss) _ ⟨0, rfl, (by omega), ⟨rfl, rfl, rfl, rfl, rfl, trivial⟩, rfl⟩ ?_
        rintro _ t10 _ ⟨j, rfl, hj, f11, rfl⟩
        rw [← frame_ok f11]
        show W _ _ _ _ _ (upd (upd (upd (upd (upd t10 4 (.bool (below (fr t)))) 5 (.float .f64 (fop .mul .f64 (f3 (fr t)) 4618760256179416344))) 6 (.float .f64 (fop .mul .f64 (fop .mul .f64 (f3 (fr t)) 4618760256179416344) (fop .mul .f64 (f3 (fr t)) 4618760256179416344)))) 7 (.float .f64 (sinP (fop .mul .f64 (fop .mul .f64 (f3 (fr t)) 4618760256179416344) (fop .mul .f64 (f3 (fr t)) 4618760256179416344)) j))) 8 (.int .i64 (((8 - j : Nat) : Int)))) _
        refine W.seq ?_
        refine W.seq ?_
        refine W.region ?_
        refine L.v (o_move (v := (.int .i64 (((8 - j : Nat) : Int)))) rfl) ?_
        refine L.v (o_igeq (a := ((8 - j : Nat) : Int)) (b := 1) rfl rfl rfl) ?_
        refine L.nil ?_
        refine W.cond (b := decide ((1 : Int) ≤ (((8 - j : Nat) : Int)))) rfl (fun q12 => ?_) (fun q12 => ?_)
        ·
          have a13 : (1 : Int) ≤ (((8 - j : Nat) : Int)) := of_decide_eq_true q12
          refine W.skip ?_
          refine W.seq ?_
          refine W.block ?_
          refine W.region ?_
          refine L.v (o_move (v := (.float .f64 (fop .mul .f64 (fop .mul .f64 (f3 (fr t)) 4618760256179416344) (fop .mul .f64 (f3 (fr t)) 4618760256179416344)))) rfl) ?_
          refine L.v (o_move (v := (.float .f64 (sinP (fop .mul .f64 (fop .mul .f64 (f3 (fr t)) 4618760256179416344) (fop .mul .f64 (f3 (fr t)) 4618760256179416344)) j))) rfl) ?_
          refine L.v (o_farith (k := .f64) (a := fop .mul .f64 (fop .mul .f64 (f3 (fr t)) 4618760256179416344) (fop .mul .f64 (f3 (fr t)) 4618760256179416344)) (b := sinP (fop .mul .f64 (fop .mul .f64 (f3 (fr t)) 4618760256179416344) (fop .mul .f64 (f3 (fr t)) 4618760256179416344)) j) rfl rfl rfl) ?_
          refine L.v (o_move (v := (.int .i64 (((8 - j : Nat) : Int)))) rfl) ?_
          refine L.v (o_imul (a := 2) (b := ((8 - j : Nat) : Int)) (c := 2 * (((8 - j : Nat) : Int))) rfl rfl (by rw [IntWalk.i64_in _ (by omega)]; try omega)) ?_
          refine L.v (o_move (v := (.int .i64 (((8 - j : Nat) : Int)))) rfl) ?_
          refine L.v (o_imul (a := 2) (b := ((8 - j : Nat) : Int)) (c := 2 * (((8 - j : Nat) : Int))) rfl rfl (by rw [IntWalk.i64_in _ (by omega)]; try omega)) ?_
          refine L.v (o_iadd (a := 2 * (((8 - j : Nat) : Int))) (b := 1) (c := (2 * (((8 - j : Nat) : Int))) + 1) rfl rfl (by rw [IntWalk.i64_in _ (by omega)]; try omega)) ?_
          refine L.v (o_imul (a := 2 * (((8 - j : Nat) : Int))) (b := (2 * (((8 - j : Nat) : Int))) + 1) (c := (((2 * (8 - j)) * (2 * (8 - j) + 1) : Nat) : Int)) rfl rfl (fac_wrap j (by omega))) ?_
          refine L.v (o_cvIF (a := (((2 * (8 - j)) * (2 * (8 - j) + 1) : Nat) : Int)) (by rw [Try.underlying3]; rfl) Try.underlying30 rfl) ?_
          refine L.v (o_farith (k := .f64) (a := fop .mul .f64 (fop .mul .f64 (fop .mul .f64 (f3 (fr t)) 4618760256179416344) (fop .mul .f64 (f3 (fr t)) 4618760256179416344)) (sinP (fop .mul .f64 (fop .mul .f64 (f3 (fr t)) 4618760256179416344) (fop .mul .f64 (f3 (fr t)) 4618760256179416344)) j)) (b := FloatKind.nearest .f64 ((((2 * (8 - j)) * (2 * (8 - j) + 1) : Nat) : Int))) rfl rfl rfl) ?_
          refine L.v (o_farith (k := .f64) (a := 4607182418800017408) (b := fop .quo .f64 (fop .mul .f64 (fop .mul .f64 (fop .mul .f64 (f3 (fr t)) 4618760256179416344) (fop .mul .f64 (f3 (fr t)) 4618760256179416344)) (sinP (fop .mul .f64 (fop .mul .f64 (f3 (fr t)) 4618760256179416344) (fop .mul .f64 (f3 (fr t)) 4618760256179416344)) j)) (FloatKind.nearest .f64 ((((2 * (8 - j)) * (2 * (8 - j) + 1) : Nat) : Int)))) rfl rfl rfl) ?_
          refine L.v (o_assign (v := (.float .f64 (fop .sub .f64 4607182418800017408 (fop .quo .f64 (fop .mul .f64 (fop .mul .f64 (fop .mul .f64 (f3 (fr t)) 4618760256179416344) (fop .mul .f64 (f3 (fr t)) 4618760256179416344)) (sinP (fop .mul .f64 (fop .mul .f64 (f3 (fr t)) 4618760256179416344) (fop .mul .f64 (f3 (fr t)) 4618760256179416344)) j)) (FloatKind.nearest .f64 ((((2 * (8 - j)) * (2 * (8 - j) + 1) : Nat) : Int))))))) rfl) ?_
          refine L.nil ?_
          refine W.region ?_
          refine L.v (o_move (v := (.int .i64 (((8 - j : Nat) : Int)))) rfl) ?_
          refine L.v (o_isub (a := ((8 - j : Nat) : Int)) (b := 1) (c := ((8 - (j + 1) : Nat) : Int)) rfl rfl (by rw [IntWalk.i64_in _ (by omega)]; try omega)) ?_
          refine L.v (o_assign (v := (.int .i64 (((8 - (j + 1) : Nat) : Int)))) rfl) ?_
          refine L.nil ?_
          exact ⟨_, (by omega), j + 1, rfl, (by omega), ⟨rfl, rfl, rfl, rfl, rfl, trivial⟩, rfl⟩
        ·
          have a14 : ¬ ((1 : Int) ≤ (((8 - j : Nat) : Int))) := of_decide_eq_false q12
          refine W.exit ?_
          refine W.seq ?_
          refine W.seq ?_
          obtain rfl : j = 8 := by omega
          refine W.region ?_
          refine L.v (o_move (v := (.bool (below (fr t)))) rfl) ?_
          refine L.nil ?_
          refine W.cond (b := below (fr t)) rfl (fun q15 => ?_) (fun q15 => ?_)
          ·
            refine W.seq ?_
            refine W.region ?_
            refine L.v (o_move (v := (.float .f64 (fop .mul .f64 (f3 (fr t)) 4618760256179416344))) rfl) ?_
            refine L.v (o_move (v := (.float .f64 (sinP (fop .mul .f64 (fop .mul .f64 (f3 (fr t)) 4618760256179416344) (fop .mul .f64 (f3 (fr t)) 4618760256179416344)) 8))) rfl) ?_
            refine L.v (o_farith (k := .f64) (a := fop .mul .f64 (f3 (fr t)) 4618760256179416344) (b := sinP (fop .mul .f64 (fop .mul .f64 (f3 (fr t)) 4618760256179416344) (fop .mul .f64 (f3 (fr t)) 4618760256179416344)) 8) rfl rfl rfl) ?_
            refine L.v (o_fneg (k := .f64) (a := fop .mul .f64 (fop .mul .f64 (f3 (fr t)) 4618760256179416344) (sinP (fop .mul .f64 (fop .mul .f64 (f3 (fr t)) 4618760256179416344) (fop .mul .f64 (f3 (fr t)) 4618760256179416344)) 8)) rfl) ?_
            refine L.v (o_assign (v := (.float .f64 (Op.negFloat .f64 (fop .mul .f64 (fop .mul .f64 (f3 (fr t)) 4618760256179416344) (sinP (fop .mul .f64 (fop .mul .f64 (f3 (fr t)) 4618760256179416344) (fop .mul .f64 (f3 (fr t)) 4618760256179416344)) 8))))) rfl) ?_
            refine L.nil ?_
            refine W.ret ?_
            exact RetK.one σ (.float .f64 (Op.negFloat .f64 (fop .mul .f64 (fop .mul .f64 (f3 (fr t)) 4618760256179416344) (sinP (fop .mul .f64 (fop .mul .f64 (f3 (fr t)) 4618760256179416344) (fop .mul .f64 (f3 (fr t)) 4618760256179416344)) 8)))) rfl rfl (Ext.refl _) ⟨by first | (rw [sineV_t (by assumption)]; rfl) | (rw [sineV_f (by assumption)]; rfl), rfl⟩
          ·
            refine W.skip ?_
            refine W.seq ?_
            refine W.region ?_
            refine L.v (o_move (v := (.float .f64 (fop .mul .f64 (f3 (fr t)) 4618760256179416344))) rfl) ?_
            refine L.v (o_move (v := (.float .f64 (sinP (fop .mul .f64 (fop .mul .f64 (f3 (fr t)) 4618760256179416344) (fop .mul .f64 (f3 (fr t)) 4618760256179416344)) 8))) rfl) ?_
            refine L.v (o_farith (k := .f64) (a := fop .mul .f64 (f3 (fr t)) 4618760256179416344) (b := sinP (fop .mul .f64 (fop .mul .f64 (f3 (fr t)) 4618760256179416344) (fop .mul .f64 (f3 (fr t)) 4618760256179416344)) 8) rfl rfl rfl) ?_
            refine L.v (o_assign (v := (.float .f64 (fop .mul .f64 (fop .mul .f64 (f3 (fr t)) 4618760256179416344) (sinP (fop .mul .f64 (fop .mul .f64 (f3 (fr t)) 4618760256179416344) (fop .mul .f64 (f3 (fr t)) 4618760256179416344)) 8)))) rfl) ?_
            refine L.nil ?_
            refine W.ret ?_
            exact RetK.one σ (.float .f64 (fop .mul .f64 (fop .mul .f64 (f3 (fr t)) 4618760256179416344) (sinP (fop .mul .f64 (fop .mul .f64 (f3 (fr t)) 4618760256179416344) (fop .mul .f64 (f3 (fr t)) 4618760256179416344)) 8))) rfl rfl (Ext.refl _) ⟨by first | (rw [sineV_t (by assumption)]; rfl) | (rw [sineV_f (by assumption)]; rfl), rfl⟩

theorem specSineN {w0 : World} {σ : Sg} (t : Nat) (h : fcmp .neq .f64 (fop .sub .f64 t t) 0 = true) :
    FnV Try.prog w0 81 [(.float .f64 t)] σ (.float .f64 9221120237041090561) := by
  unfold FnV
  refine Fn.of_W 67 Try.func81 rfl Try.ntmps81 rfl ?_
  refine W.seq ?_
  refine W.region ?_
  refine L.v (o_assign (v := (.float .f64 0)) rfl) ?_
  refine L.nil ?_
  refine W.seq ?_
  refine W.seq ?_
  refine W.region ?_
  refine L.v (o_move (v := (.float .f64 t)) rfl) ?_
  refine L.v (o_move (v := (.float .f64 t)) rfl) ?_
  refine L.v (o_farith (k := .f64) (a := t) (b := t) rfl rfl rfl) ?_
  refine L.v (o_fcmp (k := .f64) (a := fop .sub .f64 t t) (b := 0) rfl rfl rfl rfl) ?_
  refine L.nil ?_
  refine W.condT (b := fcmp .neq .f64 (fop .sub .f64 t t) 0) rfl h ?_
  refine W.seq ?_
  refine W.region ?_
  refine L.v (v := (.float .f64 9221120237041090561)) (op_call [] Try.call84 rfl (nanC)) ?_
  refine L.v (o_assign (v := (.float .f64 9221120237041090561)) rfl) ?_
  refine L.nil ?_
  refine W.ret ?_
  exact RetK.one σ (.float .f64 9221120237041090561) rfl rfl (Ext.refl _) ⟨rfl, rfl⟩

theorem specSineB {w0 : World} {σ : Sg} (t : Nat) (h : fcmp .neq .f64 (fop .sub .f64 t t) 0 = false) (h1 : fcmp .geq .f64 t 4841369599423283200 = true) :
    FnV Try.prog w0 81 [(.float .f64 t)] σ (.float .f64 0) := by
  unfold FnV
  refine Fn.of_W 67 Try.func81 rfl Try.ntmps81 rfl ?_
  refine W.seq ?_
  refine W.region ?_
  refine L.v (o_assign (v := (.float .f64 0)) rfl) ?_
  refine L.nil ?_
  refine W.seq ?_
  refine W.seq ?_
  refine W.region ?_
  refine L.v (o_move (v := (.float .f64 t)) rfl) ?_
  refine L.v (o_move (v := (.float .f64 t)) rfl) ?_
  refine L.v (o_farith (k := .f64) (a := t) (b := t) rfl rfl rfl) ?_
  refine L.v (o_fcmp (k := .f64) (a := fop .sub .f64 t t) (b := 0) rfl rfl rfl rfl) ?_
  refine L.nil ?_
  refine W.condF (b := fcmp .neq .f64 (fop .sub .f64 t t) 0) rfl h ?_
  refine W.skip ?_
  refine W.seq ?_
  refine W.seq ?_
  refine W.region ?_
  refine L.v (o_move (v := (.float .f64 t)) rfl) ?_
  refine L.v (o_fcmp (k := .f64) (a := t) (b := 4841369599423283200) rfl rfl rfl rfl) ?_
  refine L.v (o_move (v := (.bool (fcmp .geq .f64 t 4841369599423283200))) rfl) ?_
  refine L.gF (j := 2) (d₁ := 16) (b := fcmp .geq .f64 t 4841369599423283200) rfl rfl rfl h1 ?_
  refine L.gF (j := 2) (d₁ := 16) (b := fcmp .geq .f64 t 4841369599423283200) rfl rfl rfl h1 ?_
  refine L.v (o_pickT (b := fcmp .geq .f64 t 4841369599423283200) (v := (.bool true)) rfl h1 rfl) ?_
  refine L.nil ?_
  refine W.condT (b := true) rfl rfl ?_
  refine W.seq ?_
  refine W.region ?_
  refine L.v (o_assign (v := (.float .f64 0)) rfl) ?_
  refine L.nil ?_
  refine W.ret ?_
  exact RetK.one σ (.float .f64 0) rfl rfl (Ext.refl _) ⟨rfl, rfl⟩

theorem specSineC {w0 : World} {σ : Sg} (t : Nat) (h : fcmp .neq .f64 (fop .sub .f64 t t) 0 = false) (h1 : fcmp .geq .f64 t 4841369599423283200 = false) (h2 : fcmp .leq .f64 t 14064741636278059008 = true) :
    FnV Try.prog w0 81 [(.float .f64 t)] σ (.float .f64 0) := by
  unfold FnV
  refine Fn.of_W 67 Try.func81 rfl Try.ntmps81 rfl ?_
  refine W.seq ?_
  refine W.region ?_
  refine L.v (o_assign (v := (.float .f64 0)) rfl) ?_
  refine L.nil ?_
  refine W.seq ?_
  refine W.seq ?_
  refine W.region ?_
  refine L.v (o_move (v := (.float .f64 t)) rfl) ?_
  refine L.v (o_move (v := (.float .f64 t)) rfl) ?_
  refine L.v (o_farith (k := .f64) (a := t) (b := t) rfl rfl rfl) ?_
  refine L.v (o_fcmp (k := .f64) (a := fop .sub .f64 t t) (b := 0) rfl rfl rfl rfl) ?_
  refine L.nil ?_
  refine W.condF (b := fcmp .neq .f64 (fop .sub .f64 t t) 0) rfl h ?_
  refine W.skip ?_
  refine W.seq ?_
  refine W.seq ?_
  refine W.region ?_
  refine L.v (o_move (v := (.float .f64 t)) rfl) ?_
  refine L.v (o_fcmp (k := .f64) (a := t) (b := 4841369599423283200) rfl rfl rfl rfl) ?_
  refine L.v (o_move (v := (.bool (fcmp .geq .f64 t 4841369599423283200))) rfl) ?_
  refine L.gv (j := 2) (d₁ := 16) (b := fcmp .geq .f64 t 4841369599423283200) rfl rfl rfl h1 (o_move (v := (.float .f64 t)) rfl) ?_
  refine L.gv (j := 2) (d₁ := 16) (b := fcmp .geq .f64 t 4841369599423283200) rfl rfl rfl h1 (o_fcmp (k := .f64) (a := t) (b := 14064741636278059008) rfl rfl rfl rfl) ?_
  refine L.v (o_pickF (b := fcmp .geq .f64 t 4841369599423283200) (v := (.bool (fcmp .leq .f64 t 14064741636278059008))) rfl h1 rfl) ?_
  refine L.nil ?_
  refine W.condT (b := fcmp .leq .f64 t 14064741636278059008) rfl h2 ?_
  refine W.seq ?_
  refine W.region ?_
  refine L.v (o_assign (v := (.float .f64 0)) rfl) ?_
  refine L.nil ?_
  refine W.ret ?_
  exact RetK.one σ (.float .f64 0) rfl rfl (Ext.refl _) ⟨rfl, rfl⟩

theorem specSineAll {w0 : World} {σ : Sg} (t : Nat) : FnV Try.prog w0 81 [.float .f64 t] σ (.float .f64 (sineT t)) := by
  rcases tcases t with ⟨h, e⟩ | ⟨h, h1, e⟩ | ⟨h, h1, h2, e⟩ | ⟨h, _, e⟩
  · rw [e]; exact specSineN t h
  · rw [e]; exact specSineB t h h1
  · rw [e]; exact specSineC t h h1 h2
  · rw [e]; exact specSineW t h

theorem implSineW {w0 : World} {σ : Sg} (t : Nat) (H : FineS t) :
    FnV Try.prog w0 86 [(.float .f64 t)] σ (.float .f64 (sineV (fr t))) := by
  unfold FnV
  refine Fn.of_W 49 Try.func86 rfl Try.ntmps86 rfl ?_
  refine W.seq ?_
  refine W.region ?_
  refine L.v (o_assign (v := (.float .f64 0)) rfl) ?_
  refine L.nil ?_
  refine W.seq ?_
  refine W.region ?_
  refine L.v (o_move (v := (.float .f64 t)) rfl) ?_
  refine L.v (v := (.float .f64 (fr t))) (op_call [(.float .f64 t)] Try.call108 rfl (fractionC t H)) ?_
  refine L.v (o_assign (v := (.float .f64 (fr t))) rfl) ?_
  refine L.nil ?_
  refine W.seq ?_
  refine W.region ?_
  refine L.v (o_move (v := (.float .f64 (fr t))) rfl) ?_
  refine L.v (v := .bool (below (fr t))) (o_fcmp (k := .f64) (a := fr t) (b := 4602678819172646912) rfl rfl rfl rfl) ?_
  refine L.v (o_assign (v := (.bool (below (fr t)))) rfl) ?_
  refine L.nil ?_
  refine W.seq ?_
  refine W.seq ?_
  refine W.region ?_
  refine L.v (o_move (v := (.bool (below (fr t)))) rfl) ?_
  refine L.nil ?_
  refine W.join (fun tt ss => FrOk tt [(3, (.float .f64 (f2 (fr t)))), (4, (.bool (below (fr t))))] ∧ ss = σ) ?_ ?_
  ·
    refine W.cond (b := below (fr t)) rfl (fun q3 => ?_) (fun q3 => ?_)
    ·
      refine W.region ?_
      refine L.v (o_move (v := (.float .f64 (fr t))) rfl) ?_
      refine L.v (o_farith (k := .f64) (a := fr t) (b := 4602678819172646912) rfl rfl rfl) ?_
      refine L.v (o_assign (v := (.float .f64 (fop .sub .f64 (fr t) 4602678819172646912))) rfl) ?_
      refine L.nil ?_
      exact ⟨⟨(by first | (rw [f2_t (by assumption)]; rfl) | (rw [f2_f (by assumption)]; rfl)), rfl, trivial⟩, rfl⟩
    ·
      refine W.skip ?_
      exact ⟨⟨(by first | (rw [f2_t (by assumption)]; rfl) | (rw [f2_f (by assumption)]; rfl)), rfl, trivial⟩, rfl⟩
  ·
    rintro t2 s9 ⟨f1, e9⟩
    rw [e9]
    replace f1 : (upd (upd t2 3 (.float .f64 (f2 (fr t)))) 4 (.bool (below (fr t)))) = t2 := frame_ok f1
    rw [← f1]
    clear f1
    refine W.seq ?_
    refine W.seq ?_
    refine W.region ?_
    refine L.v (o_move (v := (.float .f64 (f2 (fr t)))) rfl) ?_
    refine L.v (o_fcmp (k := .f64) (a := f2 (fr t)) (b := 4598175219545276416) rfl rfl rfl rfl) ?_
    refine L.nil ?_
    refine W.join (fun tt ss => FrOk tt [(3, (.float .f64 (f3 (fr t)))), (4, (.bool (below (fr t))))] ∧ ss = σ) ?_ ?_
    ·
      refine W.cond (b := fcmp .gtr .f64 (f2 (fr t)) 4598175219545276416) rfl (fun q6 => ?_) (fun q6 => ?_)
      ·
        refine W.region ?_
        refine L.v (o_move (v := (.float .f64 (f2 (fr t)))) rfl) ?_
        refine L.v (o_farith (k := .f64) (a := 4602678819172646912) (b := f2 (fr t)) rfl rfl rfl) ?_
        refine L.v (o_assign (v := (.float .f64 (fop .sub .f64 4602678819172646912 (f2 (fr t))))) rfl) ?_
        refine L.nil ?_
        exact ⟨⟨(by first | (rw [f3_t (by assumption)]; rfl) | (rw [f3_f (by assumption)]; rfl)), rfl, trivial⟩, rfl⟩
      ·
        refine W.skip ?_
        exact ⟨⟨(by first | (rw [f3_t (by assumption)]; rfl) | (rw [f3_f (by assumption)]; rfl)), rfl, trivial⟩, rfl⟩
    ·
      rintro t5 s9 ⟨f4, e9⟩
      rw [e9]
      replace f4 : (upd (upd t5 3 (.float .f64 (f3 (fr t)))) 4 (.bool (below (fr t)))) = t5 := frame_ok f4
      rw [← f4]
      clear f4
      refine W.seq ?_
      refine W.region ?_
      refine L.v (o_move (v := (.float .f64 (f3 (fr t)))) rfl) ?_
      refine L.v (o_farith (k := .f64) (a := f3 (fr t)) (b := 4618760256179416344) rfl rfl rfl) ?_
      refine L.v (o_assign (v := (.float .f64 (fop .mul .f64 (f3 (fr t)) 4618760256179416344))) rfl) ?_
      refine L.nil ?_
      refine W.seq ?_
      refine W.region ?_
      refine L.v (o_move (v := (.float .f64 (fop .mul .f64 (f3 (fr t)) 4618760256179416344))) rfl) ?_
      refine L.v (o_move (v := (.float .f64 (fop .mul .f64 (f3 (fr t)) 4618760256179416344))) rfl) ?_
      refine L.v (o_farith (k := .f64) (a := fop .mul .f64 (f3 (fr t)) 4618760256179416344) (b := fop .mul .f64 (f3 (fr t)) 4618760256179416344) rfl rfl rfl) ?_
      refine L.v (o_assign (v := (.float .f64 (fop .mul .f64 (fop .mul .f64 (f3 (fr t)) 4618760256179416344) (fop .mul .f64 (f3 (fr t)) 4618760256179416344)))) rfl) ?_
      refine L.nil ?_
      refine W.seq ?_
      refine W.region ?_
      refine L.v (o_assign (v := (.float .f64 4607182418800017408)) rfl) ?_
      refine L.nil ?_
      refine W.seq ?_
      refine W.seq ?_
      refine W.region ?_
      refine L.v (o_assign (v := (.int .i64 8)) rfl) ?_
      refine L.nil ?_
      refine W.block ?_
      refine W.loop (fun nn tt ss => ∃ (j : Nat), nn = 8 - j ∧ (j ≤ 8) ∧ FrOk tt [(4, (.bool (below (fr t)))), (5, (.float .f64 (fop .mul .f64 (f3 (fr t)) 4618760256179416344))), (6, (.float .f64 (fop .mul .f64 (fop .mul .f64 (f3 (fr t)) 4618760256179416344) (fop .mul .f64 (f3 (fr t)) 4618760256179416344)))), (7, (.float .f64 (sinP (fop .mul .f64 (fop .mul .f64 (f3 (fr t)) 4618760256179416344) (fop .mul .f64 (f3 (fr t)) 4618760256179416344)) j))), (8, (.int .i64 (((8 - j : Nat) : Int))))] ∧ σ = ss) _ ⟨0, rfl, (by omega), ⟨rfl, rfl, rfl, rfl, rfl, trivial⟩, rfl⟩ ?_
      rintro _ t7 _ ⟨j, rfl, hj, f8, rfl⟩
      rw [← frame_ok f8]
      show W _ _ _ _ _ (upd (upd (upd (upd (upd t7 4 (.bool (below (fr t)))) 5 (.float .f64 (fop .mul .f64 (f3 (fr t)) 4618760256179416344))) 6 (.float .f64 (fop .mul .f64 (fop .mul .f64 (f3 (fr t)) 4618760256179416344) (fop .mul .f64 (f3 (fr t)) 4618760256179416344)))) 7 (.float .f64 (sinP (fop .mul .f64 (fop .mul .f64 (f3 (fr t)) 4618760256179416344) (fop .mul .f64 (f3 (fr t)) 4618760256179416344)) j))) 8 (.int .i64 (((8 - j : Nat) : Int)))) _
      refine W.seq ?_
      refine W.seq ?_
      refine W.region ?_
      refine L.v (o_move (v := (.int .i64 (((8 - j : Nat) : Int)))) rfl) ?_
      refine L.v (o_igeq (a := ((8 - j : Nat) : Int)) (b := 1) rfl rfl rfl) ?_
      refine L.nil ?_
      refine W.cond (b := decide ((1 : Int) ≤ (((8 - j : Nat) : Int)))) rfl (fun q9 => ?_) (fun q9 => ?_)
      ·
        have a10 : (1 : Int) ≤ (((8 - j : Nat) : Int)) := of_decide_eq_true q9
        refine W.skip ?_
        refine W.seq ?_
        refine W.block ?_
        refine W.region ?_
        refine L.v (o_move (v := (.float .f64 (fop .mul .f64 (fop .mul .f64 (f3 (fr t)) 4618760256179416344) (fop .mul .f64 (f3 (fr t)) 4618760256179416344)))) rfl) ?_
        refine L.v (o_move (v := (.float .f64 (sinP (fop .mul .f64 (fop .mul .f64 (f3 (fr t)) 4618760256179416344) (fop .mul .f64 (f3 (fr t)) 4618760256179416344)) j))) rfl) ?_
        refine L.v (o_farith (k := .f64) (a := fop .mul .f64 (fop .mul .f64 (f3 (fr t)) 4618760256179416344) (fop .mul .f64 (f3 (fr t)) 4618760256179416344)) (b := sinP (fop .mul .f64 (fop .mul .f64 (f3 (fr t)) 4618760256179416344) (fop .mul .f64 (f3 (fr t)) 4618760256179416344)) j) rfl rfl rfl) ?_
        refine L.v (o_move (v := (.int .i64 (((8 - j : Nat) : Int)))) rfl) ?_
        refine L.v (o_imul (a := 2) (b := ((8 - j : Nat) : Int)) (c := 2 * (((8 - j : Nat) : Int))) rfl rfl (by rw [IntWalk.i64_in _ (by omega)]; try omega)) ?_
        refine L.v (o_move (v := (.int .i64 (((8 - j : Nat) : Int)))) rfl) ?_
        refine L.v (o_imul (a := 2) (b := ((8 - j : Nat) : Int)) (c := 2 * (((8 - j : Nat) : Int))) rfl rfl (by rw [IntWalk.i64_in _ (by omega)]; try omega)) ?_
        refine L.v (o_iadd (a := 2 * (((8 - j : Nat) : Int))) (b := 1) (c := (2 * (((8 - j : Nat) : Int))) + 1) rfl rfl (by rw [IntWalk.i64_in _ (by omega)]; try omega)) ?_
        refine L.v (o_imul (a := 2 * (((8 - j : Nat) : Int))) (b := (2 * (((8 - j : Nat) : Int))) + 1) (c := (((2 * (8 - j)) * (2 * (8 - j) + 1) : Nat) : Int)) rfl rfl (fac_wrap j (by omega))) ?_
        refine L.v (o_cvIF (a := (((2 * (8 - j)) * (2 * (8 - j) + 1) : Nat) : Int)) (by rw [Try.underlying3]; rfl) Try.underlying30 rfl) ?_
        refine L.v (o_farith (k := .f64) (a := fop .mul .f64 (fop .mul .f64 (fop .mul .f64 (f3 (fr t)) 4618760256179416344) (fop .mul .f64 (f3 (fr t)) 4618760256179416344)) (sinP (fop .mul .f64 (fop .mul .f64 (f3 (fr t)) 4618760256179416344) (fop .mul .f64 (f3 (fr t)) 4618760256179416344)) j)) (b := FloatKind.nearest .f64 ((((2 * (8 - j)) * (2 * (8 - j) + 1) : Nat) : Int))) rfl rfl rfl) ?_
        refine L.v (o_farith (k := .f64) (a := 4607182418800017408) (b := fop .quo .f64 (fop .mul .f64 (fop .mul .f64 (fop .mul .f64 (f3 (fr t)) 4618760256179416344) (fop .mul .f64 (f3 (fr t)) 4618760256179416344)) (sinP (fop .mul .f64 (fop .mul .f64 (f3 (fr t)) 4618760256179416344) (fop .mul .f64 (f3 (fr t)) 4618760256179416344)) j)) (FloatKind.nearest .f64 ((((2 * (8 - j)) * (2 * (8 - j) + 1) : Nat) : Int)))) rfl rfl rfl) ?_
        refine L.v (o_assign (v := (.float .f64 (fop .sub .f64 4607182418800017408 (fop .quo .f64 (fop .mul .f64 (fop .mul .f64 (fop .mul .f64 (f3 (fr t)) 4618760256179416344) (fop .mul .f64 (f3 (fr t)) 4618760256179416344)) (sinP (fop .mul .f64 (fop .mul .f64 (f3 (fr t)) 4618760256179416344) (fop .mul .f64 (f3 (fr t)) 4618760256179416344)) j)) (FloatKind.nearest .f64 ((((2 * (8 - j)) * (2 * (8 - j) + 1) : Nat) : Int))))))) rfl) ?_
        refine L.nil ?_
        refine W.region ?_
        refine L.v (o_move (v := (.int .i64 (((8 - j : Nat) : Int)))) rfl) ?_
        refine L.v (o_isub (a := ((8 - j : Nat) : Int)) (b := 1) (c := ((8 - (j + 1) : Nat) : Int)) rfl rfl (by rw [IntWalk.i64_in _ (by omega)]; try omega)) ?_
        refine L.v (o_assign (v := (.int .i64 (((8 - (j + 1) : Nat) : Int)))) rfl) ?_
        refine L.nil ?_
        exact ⟨_, (by omega), j + 1, rfl, (by omega), ⟨rfl, rfl, rfl, rfl, rfl, trivial⟩, rfl⟩
      ·
        have a11 : ¬ ((1 : Int) ≤ (((8 - j : Nat) : Int))) := of_decide_eq_false q9
        refine W.exit ?_
        refine W.seq ?_
        obtain rfl : j = 8 := by omega
        refine W.region ?_
        refine L.v (o_move (v := (.float .f64 (fop .mul .f64 (f3 (fr t)) 4618760256179416344))) rfl) ?_
        refine L.v (o_move (v := (.float .f64 (sinP (fop .mul .f64 (fop .mul .f64 (f3 (fr t)) 4618760256179416344) (fop .mul .f64 (f3 (fr t)) 4618760256179416344)) 8))) rfl) ?_
        refine L.v (o_farith (k := .f64) (a := fop .mul .f64 (f3 (fr t)) 4618760256179416344) (b := sinP (fop .mul .f64 (fop .mul .f64 (f3 (fr t)) 4618760256179416344) (fop .mul .f64 (f3 (fr t)) 4618760256179416344)) 8) rfl rfl rfl) ?_
        refine L.v (o_assign (v := (.float .f64 (fop .mul .f64 (fop .mul .f64 (f3 (fr t)) 4618760256179416344) (sinP (fop .mul .f64 (fop .mul .f64 (f3 (fr t)) 4618760256179416344) (fop .mul .f64 (f3 (fr t)) 4618760256179416344)) 8)))) rfl) ?_
        refine L.nil ?_
        refine W.seq ?_
        refine W.seq ?_
        refine W.region ?_
        refine L.v (o_move (v := (.bool (below (fr t)))) rfl) ?_
        refine L.nil ?_
        refine W.cond (b := below (fr t)) rfl (fun q12 => ?_) (fun q12 => ?_)
        ·
          refine W.seq ?_
          refine W.region ?_
          refine L.v (o_move (v := (.float .f64 (fop .mul .f64 (fop .mul .f64 (f3 (fr t)) 4618760256179416344) (sinP (fop .mul .f64 (fop .mul .f64 (f3 (fr t)) 4618760256179416344) (fop .mul .f64 (f3 (fr t)) 4618760256179416344)) 8)))) rfl) ?_
          refine L.v (o_fneg (k := .f64) (a := fop .mul .f64 (fop .mul .f64 (f3 (fr t)) 4618760256179416344) (sinP (fop .mul .f64 (fop .mul .f64 (f3 (fr t)) 4618760256179416344) (fop .mul .f64 (f3 (fr t)) 4618760256179416344)) 8)) rfl) ?_
          refine L.v (o_assign (v := (.float .f64 (Op.negFloat .f64 (fop .mul .f64 (fop .mul .f64 (f3 (fr t)) 4618760256179416344) (sinP (fop .mul .f64 (fop .mul .f64 (f3 (fr t)) 4618760256179416344) (fop .mul .f64 (f3 (fr t)) 4618760256179416344)) 8))))) rfl) ?_
          refine L.nil ?_
          refine W.ret ?_
          exact RetK.one σ (.float .f64 (Op.negFloat .f64 (fop .mul .f64 (fop .mul .f64 (f3 (fr t)) 4618760256179416344) (sinP (fop .mul .f64 (fop .mul .f64 (f3 (fr t)) 4618760256179416344) (fop .mul .f64 (f3 (fr t)) 4618760256179416344)) 8)))) rfl rfl (Ext.refl _) ⟨by first | (rw [sineV_t (by assumption)]; rfl) | (rw [sineV_f (by assumption)]; rfl), rfl⟩
        ·
          refine W.skip ?_
          refine W.seq ?_
          refine W.region ?_
          refine L.v (o_move (v := (.float .f64 (fop .mul .f64 (fop .mul .f64 (f3 (fr t)) 4618760256179416344) (sinP (fop .mul .f64 (fop .mul .f64 (f3 (fr t)) 4618760256179416344) (fop .mul .f64 (f3 (fr t)) 4618760256179416344)) 8)))) rfl) ?_
          refine L.v (o_assign (v := (.float .f64 (fop .mul .f64 (fop .mul .f64 (f3 (fr t)) 4618760256179416344) (sinP (fop .mul .f64 (fop .mul .f64 (f3 (fr t)) 4618760256179416344) (fop .mul .f64 (f3 (fr t)) 4618760256179416344)) 8)))) rfl) ?_
          refine L.nil ?_
          refine W.ret ?_
          exact RetK.one σ (.float .f64 (fop .mul .f64 (fop .mul .f64 (f3 (fr t)) 4618760256179416344) (sinP (fop .mul .f64 (fop .mul .f64 (f3 (fr t)) 4618760256179416344) (fop .mul .f64 (f3 (fr t)) 4618760256179416344)) 8))) rfl rfl (Ext.refl _) ⟨by first | (rw [sineV_t (by assumption)]; rfl) | (rw [sineV_f (by assumption)]; rfl), rfl⟩

theorem narrowC {w0 : World} {σ : Sg} (t : Nat) (hk : okcvt .f64 .f32 t = true) :
    FnV Try.prog w0 80 [(.float .f64 t)] σ (.float .f32 (cvt .f64 .f32 t)) := by
  unfold FnV
  refine Fn.of_W 5 Try.func80 rfl Try.ntmps80 rfl ?_
  refine W.seq ?_
  refine W.region ?_
  refine L.v (o_assign (v := (.float .f32 0)) rfl) ?_
  refine L.nil ?_
  refine W.seq ?_
  refine W.region ?_
  refine L.v (o_move (v := (.float .f64 t)) rfl) ?_
  refine L.v (o_cvFF (s := .f64) (d := .f32) (a := t) (by rw [Try.underlying30]; rfl) Try.underlying24 rfl hk) ?_
  refine L.v (o_assign (v := (.float .f32 (cvt .f64 .f32 t))) rfl) ?_
  refine L.nil ?_
  refine W.ret ?_
  exact RetK.one σ (.float .f32 (cvt .f64 .f32 t)) rfl rfl (Ext.refl _) ⟨rfl, rfl⟩

theorem specSine {w0 : World} {σ : Sg} (x : Nat) :
    FnV Try.prog w0 53 [(.float .f32 x)] σ (.float .f32 (sineA x)) := by
  unfold FnV
  refine Fn.of_W 7 Try.func53 rfl Try.ntmps53 rfl ?_
  refine W.seq ?_
  refine W.region ?_
  refine L.v (o_assign (v := (.float .f32 0)) rfl) ?_
  refine L.nil ?_
  refine W.seq ?_
  refine W.region ?_
  refine L.v (o_move (v := (.float .f32 x)) rfl) ?_
  refine L.v (o_cvFF (s := .f32) (d := .f64) (a := x) (by rw [Try.underlying24]; rfl) Try.underlying30 rfl (okw x)) ?_
  refine L.v (v := (.float .f64 (sineT (cvt .f32 .f64 x)))) (op_call [(.float .f64 (cvt .f32 .f64 x))] Try.call81 rfl (specSineAll (cvt .f32 .f64 x))) ?_
  refine L.v (v := (.float .f32 (cvt .f64 .f32 (sineT (cvt .f32 .f64 x))))) (op_call [(.float .f64 (sineT (cvt .f32 .f64 x)))] Try.call80 rfl (narrowC (sineT (cvt .f32 .f64 x)) (sineT_ok _))) ?_
  refine L.v (o_assign (v := (.float .f32 (cvt .f64 .f32 (sineT (cvt .f32 .f64 x))))) rfl) ?_
  refine L.nil ?_
  refine W.ret ?_
  exact RetK.one σ (.float .f32 (cvt .f64 .f32 (sineT (cvt .f32 .f64 x)))) rfl rfl (Ext.refl _) ⟨rfl, rfl⟩

theorem implSineN {w0 : World} {σ : Sg} (x : Nat) (h : fcmp .eql .f64 (fop .sub .f64 (cvt .f32 .f64 x) (cvt .f32 .f64 x)) 0 = false) :
    FnV Try.prog w0 55 [(.float .f32 x)] σ (.float .f32 (cvt .f64 .f32 9221120237041090561)) := by
  unfold FnV
  refine Fn.of_W 19 Try.func55 rfl Try.ntmps55 rfl ?_
  refine W.seq ?_
  refine W.region ?_
  refine L.v (o_assign (v := (.float .f32 0)) rfl) ?_
  refine L.nil ?_
  refine W.seq ?_
  refine W.region ?_
  refine L.v (o_move (v := (.float .f32 x)) rfl) ?_
  refine L.v (o_cvFF (s := .f32) (d := .f64) (a := x) (by rw [Try.underlying24]; rfl) Try.underlying30 rfl (okw x)) ?_
  refine L.v (o_assign (v := (.float .f64 (cvt .f32 .f64 x))) rfl) ?_
  refine L.nil ?_
  refine W.seq ?_
  refine W.block ?_
  refine W.seq ?_
  refine W.region ?_
  refine L.v (o_move (v := (.float .f64 (cvt .f32 .f64 x))) rfl) ?_
  refine L.v (v := (.bool (fcmp .eql .f64 (fop .sub .f64 (cvt .f32 .f64 x) (cvt .f32 .f64 x)) 0))) (op_call [(.float .f64 (cvt .f32 .f64 x))] Try.call83 rfl (isFiniteC (cvt .f32 .f64 x))) ?_
  refine L.v (o_not (b := fcmp .eql .f64 (fop .sub .f64 (cvt .f32 .f64 x) (cvt .f32 .f64 x)) 0) rfl rfl) ?_
  refine L.v (o_assign (v := (.bool (!(fcmp .eql .f64 (fop .sub .f64 (cvt .f32 .f64 x) (cvt .f32 .f64 x)) 0)))) rfl) ?_
  refine L.nil ?_
  refine W.condT (b := !(fcmp .eql .f64 (fop .sub .f64 (cvt .f32 .f64 x) (cvt .f32 .f64 x)) 0)) rfl (nb_f h) ?_
  refine W.seq ?_
  refine W.region ?_
  refine L.v (v := (.float .f64 9221120237041090561)) (op_call [] Try.call84 rfl (nanC)) ?_
  refine L.v (o_cvFF (s := .f64) (d := .f32) (a := 9221120237041090561) (by rw [Try.underlying30]; rfl) Try.underlying24 rfl (by decide +kernel)) ?_
  refine L.v (o_assign (v := (.float .f32 (cvt .f64 .f32 9221120237041090561))) rfl) ?_
  refine L.nil ?_
  refine W.ret ?_
  exact RetK.one σ (.float .f32 (cvt .f64 .f32 9221120237041090561)) rfl rfl (Ext.refl _) ⟨rfl, rfl⟩

theorem implSineB {w0 : World} {σ : Sg} (x : Nat) (h : fcmp .eql .f64 (fop .sub .f64 (cvt .f32 .f64 x) (cvt .f32 .f64 x)) 0 = true) (h1 : fcmp .geq .f64 (absF (cvt .f32 .f64 x)) 4841369599423283200 = true) :
    FnV Try.prog w0 55 [(.float .f32 x)] σ (.float .f32 0) := by
  unfold FnV
  refine Fn.of_W 19 Try.func55 rfl Try.ntmps55 rfl ?_
  refine W.seq ?_
  refine W.region ?_
  refine L.v (o_assign (v := (.float .f32 0)) rfl) ?_
  refine L.nil ?_
  refine W.seq ?_
  refine W.region ?_
  refine L.v (o_move (v := (.float .f32 x)) rfl) ?_
  refine L.v (o_cvFF (s := .f32) (d := .f64) (a := x) (by rw [Try.underlying24]; rfl) Try.underlying30 rfl (okw x)) ?_
  refine L.v (o_assign (v := (.float .f64 (cvt .f32 .f64 x))) rfl) ?_
  refine L.nil ?_
  refine W.seq ?_
  refine W.block ?_
  refine W.seq ?_
  refine W.region ?_
  refine L.v (o_move (v := (.float .f64 (cvt .f32 .f64 x))) rfl) ?_
  refine L.v (v := (.bool (fcmp .eql .f64 (fop .sub .f64 (cvt .f32 .f64 x) (cvt .f32 .f64 x)) 0))) (op_call [(.float .f64 (cvt .f32 .f64 x))] Try.call83 rfl (isFiniteC (cvt .f32 .f64 x))) ?_
  refine L.v (o_not (b := fcmp .eql .f64 (fop .sub .f64 (cvt .f32 .f64 x) (cvt .f32 .f64 x)) 0) rfl rfl) ?_
  refine L.v (o_assign (v := (.bool (!(fcmp .eql .f64 (fop .sub .f64 (cvt .f32 .f64 x) (cvt .f32 .f64 x)) 0)))) rfl) ?_
  refine L.nil ?_
  refine W.condF (b := !(fcmp .eql .f64 (fop .sub .f64 (cvt .f32 .f64 x) (cvt .f32 .f64 x)) 0)) rfl (nb_t h) ?_
  refine W.seq ?_
  refine W.region ?_
  refine L.v (o_move (v := (.float .f64 (cvt .f32 .f64 x))) rfl) ?_
  refine L.v (v := (.float .f64 (absF (cvt .f32 .f64 x)))) (op_call [(.float .f64 (cvt .f32 .f64 x))] Try.call85 rfl (absC (cvt .f32 .f64 x))) ?_
  refine L.v (o_fcmp (k := .f64) (a := absF (cvt .f32 .f64 x)) (b := 4841369599423283200) rfl rfl rfl rfl) ?_
  refine L.v (o_assign (v := (.bool (fcmp .geq .f64 (absF (cvt .f32 .f64 x)) 4841369599423283200))) rfl) ?_
  refine L.nil ?_
  refine W.condT (b := fcmp .geq .f64 (absF (cvt .f32 .f64 x)) 4841369599423283200) rfl h1 ?_
  refine W.seq ?_
  refine W.region ?_
  refine L.v (o_assign (v := (.float .f32 0)) rfl) ?_
  refine L.nil ?_
  refine W.ret ?_
  exact RetK.one σ (.float .f32 0) rfl rfl (Ext.refl _) ⟨rfl, rfl⟩

theorem implSineF {w0 : World} {σ : Sg} (x : Nat) (H : FineS (cvt .f32 .f64 x)) :
    FnV Try.prog w0 55 [(.float .f32 x)] σ (.float .f32 (cvt .f64 .f32 (sineV (fr (cvt .f32 .f64 x))))) := by
  unfold FnV
  refine Fn.of_W 19 Try.func55 rfl Try.ntmps55 rfl ?_
  refine W.seq ?_
  refine W.region ?_
  refine L.v (o_assign (v := (.float .f32 0)) rfl) ?_
  refine L.nil ?_
  refine W.seq ?_
  refine W.region ?_
  refine L.v (o_move (v := (.float .f32 x)) rfl) ?_
  refine L.v (o_cvFF (s := .f32) (d := .f64) (a := x) (by rw [Try.underlying24]; rfl) Try.underlying30 rfl (okw x)) ?_
  refine L.v (o_assign (v := (.float .f64 (cvt .f32 .f64 x))) rfl) ?_
  refine L.nil ?_
  refine W.seq ?_
  refine W.block ?_
  refine W.seq ?_
  refine W.region ?_
  refine L.v (o_move (v := (.float .f64 (cvt .f32 .f64 x))) rfl) ?_
  refine L.v (v := (.bool (fcmp .eql .f64 (fop .sub .f64 (cvt .f32 .f64 x) (cvt .f32 .f64 x)) 0))) (op_call [(.float .f64 (cvt .f32 .f64 x))] Try.call83 rfl (isFiniteC (cvt .f32 .f64 x))) ?_
  refine L.v (o_not (b := fcmp .eql .f64 (fop .sub .f64 (cvt .f32 .f64 x) (cvt .f32 .f64 x)) 0) rfl rfl) ?_
  refine L.v (o_assign (v := (.bool (!(fcmp .eql .f64 (fop .sub .f64 (cvt .f32 .f64 x) (cvt .f32 .f64 x)) 0)))) rfl) ?_
  refine L.nil ?_
  refine W.condF (b := !(fcmp .eql .f64 (fop .sub .f64 (cvt .f32 .f64 x) (cvt .f32 .f64 x)) 0)) rfl (nb_t H.fin) ?_
  refine W.seq ?_
  refine W.region ?_
  refine L.v (o_move (v := (.float .f64 (cvt .f32 .f64 x))) rfl) ?_
  refine L.v (v := (.float .f64 (absF (cvt .f32 .f64 x)))) (op_call [(.float .f64 (cvt .f32 .f64 x))] Try.call85 rfl (absC (cvt .f32 .f64 x))) ?_
  refine L.v (o_fcmp (k := .f64) (a := absF (cvt .f32 .f64 x)) (b := 4841369599423283200) rfl rfl rfl rfl) ?_
  refine L.v (o_assign (v := (.bool (fcmp .geq .f64 (absF (cvt .f32 .f64 x)) 4841369599423283200))) rfl) ?_
  refine L.nil ?_
  refine W.condF (b := fcmp .geq .f64 (absF (cvt .f32 .f64 x)) 4841369599423283200) rfl H.abs ?_
  refine W.skip ?_
  refine W.seq ?_
  refine W.region ?_
  refine L.v (o_move (v := (.float .f64 (cvt .f32 .f64 x))) rfl) ?_
  refine L.v (v := (.float .f64 (sineV (fr (cvt .f32 .f64 x))))) (op_call [(.float .f64 (cvt .f32 .f64 x))] Try.call86 rfl (implSineW (cvt .f32 .f64 x) H)) ?_
  refine L.v (o_cvFF (s := .f64) (d := .f32) (a := sineV (fr (cvt .f32 .f64 x))) (by rw [Try.underlying30]; rfl) Try.underlying24 rfl H.ok) ?_
  refine L.v (o_assign (v := (.float .f32 (cvt .f64 .f32 (sineV (fr (cvt .f32 .f64 x)))))) rfl) ?_
  refine L.nil ?_
  refine W.ret ?_
  exact RetK.one σ (.float .f32 (cvt .f64 .f32 (sineV (fr (cvt .f32 .f64 x))))) rfl rfl (Ext.refl _) ⟨rfl, rfl⟩

theorem implSine {w0 : World} {σ : Sg} (x : Nat) : FnV Try.prog w0 55 [.float .f32 x] σ (.float .f32 (sineA x)) := by
  rcases tcases (cvt .f32 .f64 x) with ⟨h, e⟩ | ⟨h, h1, e⟩ | ⟨h, h1, h2, e⟩ | ⟨h, hs, e⟩
  · rw [sineA, e]; exact implSineN x (bn_t h)
  · rw [sineA, e, show cvt .f64 .f32 0 = 0 by decide +kernel]; exact implSineB x (bn_f h) (abs_ge (.inl h1))
  · rw [sineA, e, show cvt .f64 .f32 0 = 0 by decide +kernel]; exact implSineB x (bn_f h) (abs_ge (.inr h2))
  · rw [sineA, e]; exact implSineF x h

end Go.Proofs.Ytnonlibekcacgaa.En
