/- The angle of a point and the root of a number, in the program and in the reference: one value, and it can be narrowed. -/
import Derived.Test.YtnonlibekcacgaaRecs
import Derived.Test.YtnonlibekcacgaaRows
namespace Go.Proofs.Ytnonlibekcacgaa.En
open Go
set_option linter.unusedVariables false
set_option maxRecDepth 100000
/-! ### sums from below -/
theorem val_ge (s : Bool) {m : Nat} {e : Int} {B : Nat} (he : -1074 ≤ e) (hE : e + m.log2 ≤ 1000) (h : P2 B ≤ m * P2 (e + 1074).toNat) : ∃ n : Nat, val (Ieee.double.nearest s m e) = some (Ieee.signed s n 0) ∧ P2 B ≤ n := by
  have h0 : m ≠ 0 := fun h9 => by rw [h9, Nat.zero_mul] at h; have := P2_pos B; omega
  refine ⟨_, (val_nearest s h0 hE).1, ?_⟩
  have hL : lastL m e = (max (e + m.log2 - 52) (-1074) + 1074).toNat := rfl
  have hlt : m < 2 ^ (m.log2 + 1) := Nat.lt_log2_self
  have hge : 2 ^ m.log2 ≤ m := Nat.log2_self_le h0
  rw [← P2_def (lastL m e)]
  by_cases hc : (lastL m e : Int) ≤ e + 1074
  · have hk : keptN s m e = m * P2 (e + 1074 - lastL m e).toNat := by
      unfold keptN
      rw [show (lastL m e - (e + 1074)).toNat = 0 by omega, cut_zero, Nat.shiftLeft_eq, P2_def]
    rw [hk, Nat.mul_assoc, ← P2_add, show (e + 1074 - lastL m e).toNat + lastL m e = (e + 1074).toNat by omega]
    exact h
  · have hk : P2 52 ≤ keptN s m e := by
      rw [P2_def]
      unfold keptN
      refine cut_ge _ _ _ _ ?_
      rw [Nat.shiftLeft_eq]
      refine Nat.le_trans ?_ (Nat.mul_le_mul_right _ hge)
      rw [← Nat.pow_add]
      exact Nat.pow_le_pow_right (by decide) (by omega)
    have hB : B ≤ 52 + lastL m e := by
      have h1 : P2 B < P2 (m.log2 + 1 + (e + 1074).toNat) := by
        rw [P2_add]
        refine Nat.lt_of_le_of_lt h (Nat.mul_lt_mul_of_pos_right ?_ (P2_pos _))
        rw [P2_def]; exact hlt
      rw [P2_def, P2_def] at h1
      have := (Nat.pow_lt_pow_iff_right (a := 2) (by decide)).1 h1
      omega
    refine Nat.le_trans (P2_le hB) ?_
    rw [P2_add]
    exact Nat.mul_le_mul_right _ hk
theorem add_ge {a b : Nat} {x y z : Int} (ha : val a = some x) (hb : val b = some y) {B C : Nat} (hC : C ≤ 2070) (hu : (x + y).natAbs ≤ P2 C) (hl : ((P2 B : Nat) : Int) ≤ x + y) (hz : val (fop .add .f64 a b) = some z) : ((P2 B : Nat) : Int) ≤ z := by
  obtain ⟨s, m, i, ra, hi, rfl⟩ := read_some ha
  obtain ⟨t, n, j, rb, hj, rfl⟩ := read_some hb
  have e1 : (i + 1074).toNat = (i - min i j).toNat + (min i j + 1074).toNat := by omega
  have e2 : (j + 1074).toNat = (j - min i j).toNat + (min i j + 1074).toNat := by omega
  rw [e1, e2, signed_P, signed_P, ← Int.add_mul] at hu hl
  have hfop : fop .add .f64 a b = Ieee.double.nearest (if Ieee.signed s m (i - min i j).toNat + Ieee.signed t n (j - min i j).toNat = 0 then s && t else Ieee.signed s m (i - min i j).toNat + Ieee.signed t n (j - min i j).toNat < 0) (Ieee.signed s m (i - min i j).toNat + Ieee.signed t n (j - min i j).toNat).natAbs (min i j) := by
    unfold fop
    show (((Ieee.double.read a).sum (Ieee.double.read b)).map Ieee.double.write).getD _ = _
    rw [ra, rb]; rfl
  rw [hfop] at hz
  generalize Ieee.signed s m (i - min i j).toNat + Ieee.signed t n (j - min i j).toNat = T at *
  have hp := P2_pos (min i j + 1074).toNat
  have hpB := P2_pos B
  have hT : 0 < T := by
    by_cases h9 : 0 < T
    · exact h9
    · have : T * ((P2 (min i j + 1074).toNat : Nat) : Int) ≤ 0 := Int.mul_nonpos_of_nonpos_of_nonneg (by omega) (by omega)
      omega
  have hs : (if T = 0 then s && t else decide (T < 0)) = false := by
    rw [if_neg (by omega)]; exact decide_eq_false (by omega)
  rw [hs] at hz
  obtain ⟨k, rfl⟩ : ∃ k : Nat, T = (k : Int) := ⟨T.toNat, by omega⟩
  rw [← Int.natCast_mul] at hu hl
  rw [Int.natAbs_natCast] at hu hz
  have hk0 : k ≠ 0 := by omega
  obtain ⟨r, r1, r2⟩ := val_ge false (m := k) (e := min i j) (B := B) (by omega) (by
    have h1 : P2 (k.log2 + (min i j + 1074).toNat) ≤ P2 C := by
      rw [P2_add]
      refine Nat.le_trans (Nat.mul_le_mul_right _ ?_) hu
      rw [P2_def]; exact Nat.log2_self_le hk0
    rw [P2_def, P2_def] at h1
    have := (Nat.pow_le_pow_iff_right (a := 2) (by decide)).1 h1
    omega) (by omega)
  rw [hz] at r1
  cases r1
  rw [sgn0]
  simp only [Bool.false_eq_true, if_false]
  omega
/-! ### the angle -/
def sqF (x : Nat) : Nat := (FloatKind.f64.format.sqrt x).getD (qnan .f64)
theorem sqrt_congr {a b : Nat} (h : cn .f64 a = cn .f64 b) : FloatKind.f64.format.sqrt a = FloatKind.f64.format.sqrt b := by
  rcases cn_eq h with rfl | ⟨h1, h2⟩
  · rfl
  · have key : ∀ x, isnan .f64 x = true → FloatKind.f64.format.sqrt x = none := fun x hx => by
      obtain ⟨s, t, hd⟩ := decode_nan hx
      have hd' : FloatKind.f64.format.read x = .nan s t := hd
      unfold Ieee.Format.sqrt
      rw [hd']; rfl
    rw [key a h1, key b h2]
theorem o_sqrt {P : Program} {w0 : World} {N : Nat} {t : Fr} {σ : Sg} {ty : TypeId} {f : FuncId} {x : Operand} {tys : Array TypeId} {fn : Func} {b : Nat} (hf : P.funcs[f]? = some fn) (hname : (fn.name == "runtime.NumGoroutine") = false)
    (hb : fn.body.isNone = true) (hn : Extern.findNext fn = .none) (he : Extern.find fn = some Extern.MathSqrt.sqrt) (hx : ev N t x = .float .f64 b) :
    OpV P w0 N (.call ⟨.value (.func f), #[x], tys⟩) ty t σ (.float .f64 (sqF b)) :=
  OpV.val fun ac w hrel hs => by
    obtain ⟨b', hu, hc'⟩ := hrel.float hx
    have hm : (#[x] : Array Operand).map ac.eval = #[.float .f64 b'] := by simp [hu]
    have hg : (execOp ac.eval ⟨.none, .call ⟨.value (.func f), #[x], tys⟩, ty, "", #[], .none⟩).run P w = (callFunc f ((#[x] : Array Operand).map ac.eval)).run P w := by
      simp [execOp, resolve, Act.eval, Deferred.ofValue, invoke]
    have hcf : (callFunc f #[.float .f64 b']).run P w = ((Extern.MathSqrt.sqrt #[.float .f64 b']).run P w).andThen fun v w' => .ok (.value v) w' := run_callFunc_extern hf hname hb hn he _ _
    have hex : Extern.MathSqrt.sqrt #[.float .f64 b'] = (match FloatKind.f64.format.sqrt b' with | some r => pure (.float .f64 r) | none => do pure (.float .f64 (← choose (.nanBits .f64 b' b')))) := rfl
    have hsq := sqrt_congr hc'
    cases hq : FloatKind.f64.format.sqrt b with
    | some r =>
      rw [hq] at hsq
      refine ⟨.float .f64 r, w, ?_, by unfold sqF; rw [hq]; rfl, hs⟩
      rw [hg, hm, hcf, hex, hsq]
      rfl
    | none =>
      rw [hq] at hsq
      obtain ⟨n, hr⟩ : ∃ n, (Extern.MathSqrt.sqrt #[.float .f64 b']).run P w = .ok (.float .f64 ((Question.nanBits .f64 b' b').cut n)) { w with drawn := w.drawn + 1 } := by
        refine ⟨w.tape w.drawn (.nanBits .f64 b' b'), ?_⟩
        rw [hex, hsq]
        simp [choose, Sem.run, Question.forced]
      refine ⟨_, _, by rw [hg, hm, hcf, hr]; rfl, ?_, hs.drawn _⟩
      have hnn : isnan .f64 ((Question.nanBits .f64 b' b').cut n) = true := isnan_cut64 n
      rw [norm_float, norm_float, cn_nan hnn]
      unfold sqF
      rw [hq]
      exact congrArg _ (cn_qnan .f64).symm
def angT (a b : Nat) : Nat := if fcmp .gtr .f64 a b = true then fop .quo .f64 b a else fop .quo .f64 a b
theorem angT_t {a b : Nat} (h : fcmp .gtr .f64 a b = true) : angT a b = fop .quo .f64 b a := if_pos h
theorem angT_f {a b : Nat} (h : fcmp .gtr .f64 a b = false) : angT a b = fop .quo .f64 a b := if_neg (by rw [h]; decide)
def angI (t : Nat) : Nat → Nat
  | 0 => t
  | j + 1 => fop .quo .f64 (angI t j) (fop .add .f64 4607182418800017408 (sqF (fop .add .f64 4607182418800017408 (fop .mul .f64 (angI t j) (angI t j)))))
def angP (u : Nat) : Nat → Nat
  | 0 => 0
  | j + 1 => fop .sub .f64 (fop .quo .f64 4607182418800017408 (FloatKind.nearest .f64 (15 - 2 * (j : Int)))) (fop .mul .f64 u (angP u j))
def angZ (t : Nat) : Nat := fop .quo .f64 (fop .mul .f64 4620693217682128896 (fop .mul .f64 t (angP (fop .mul .f64 t t) 8))) 4618760256179416344
def angO (a b : Nat) : Nat := if fcmp .gtr .f64 a b = true then fop .sub .f64 4598175219545276416 (angZ (angI (angT a b) 3)) else angZ (angI (angT a b) 3)
theorem angO_t {a b : Nat} (h : fcmp .gtr .f64 a b = true) : angO a b = fop .sub .f64 4598175219545276416 (angZ (angI (angT a b) 3)) := if_pos h
theorem angO_f {a b : Nat} (h : fcmp .gtr .f64 a b = false) : angO a b = angZ (angI (angT a b) 3) := if_neg (by rw [h]; decide)
def angX (x z : Nat) : Nat := if fcmp .lss .f64 x 0 = true then fop .sub .f64 4602678819172646912 z else z
theorem angX_t {x z : Nat} (h : fcmp .lss .f64 x 0 = true) : angX x z = fop .sub .f64 4602678819172646912 z := if_pos h
theorem angX_f {x z : Nat} (h : fcmp .lss .f64 x 0 = false) : angX x z = z := if_neg (by rw [h]; decide)
def angY (y z : Nat) : Nat := if fcmp .lss .f64 y 0 = true then Op.negFloat .f64 z else z
theorem angY_t {y z : Nat} (h : fcmp .lss .f64 y 0 = true) : angY y z = Op.negFloat .f64 z := if_pos h
theorem angY_f {y z : Nat} (h : fcmp .lss .f64 y 0 = false) : angY y z = z := if_neg (by rw [h]; decide)
def angG (y x : Nat) : Nat := angY y (angX x (angO (absF y) (absF x)))
def angW (y x : Nat) : Nat := if fcmp .neq .f64 (fop .sub .f64 y y) 0 = true then 9221120237041090561 else if fcmp .neq .f64 (fop .sub .f64 x x) 0 = true then 9221120237041090561 else if fcmp .eql .f64 x 0 = true ∧ fcmp .eql .f64 y 0 = true then 0 else angG y x
theorem angW_n1 {y x : Nat} (h : fcmp .neq .f64 (fop .sub .f64 y y) 0 = true) : angW y x = 9221120237041090561 := if_pos h
theorem angW_n2 {y x : Nat} (h : fcmp .neq .f64 (fop .sub .f64 y y) 0 = false) (h2 : fcmp .neq .f64 (fop .sub .f64 x x) 0 = true) : angW y x = 9221120237041090561 := by
  rw [angW, if_neg (by rw [h]; decide), if_pos h2]
theorem angW_0 {y x : Nat} (h : fcmp .neq .f64 (fop .sub .f64 y y) 0 = false) (h2 : fcmp .neq .f64 (fop .sub .f64 x x) 0 = false) (h3 : fcmp .eql .f64 x 0 = true) (h4 : fcmp .eql .f64 y 0 = true) : angW y x = 0 := by
  rw [angW, if_neg (by rw [h]; decide), if_neg (by rw [h2]; decide), if_pos ⟨h3, h4⟩]
theorem angW_g {y x : Nat} (h : fcmp .neq .f64 (fop .sub .f64 y y) 0 = false) (h2 : fcmp .neq .f64 (fop .sub .f64 x x) 0 = false) (h3 : fcmp .eql .f64 x 0 = false ∨ fcmp .eql .f64 y 0 = false) : angW y x = angG y x := by
  rw [angW, if_neg (by rw [h]; decide), if_neg (by rw [h2]; decide), if_neg (fun h9 => by rcases h3 with h3 | h3 <;> simp [h3] at h9)]
def T01 (t : Nat) : Prop := ∃ z : Int, val t = some z ∧ 0 ≤ z ∧ z.natAbs ≤ P2 1074
theorem angT_ok {a b : Nat} {x y : Int} (ha : val a = some x) (hb : val b = some y) (hx : 0 ≤ x) (hy : 0 ≤ y) (h : x ≠ 0 ∨ y ≠ 0) : T01 (angT a b) := by
  have hg := fcmp_gtr ha hb
  have p0 : P2 0 = 1 := by rw [P2_def]
  by_cases hc : y < x
  · rw [angT_t (by rw [hg]; exact decide_eq_true hc)]
    obtain ⟨z, z1, z2, z3⟩ := quo_P hb ha (C := 0) (D := 1074) (by omega) (by omega) (by omega) (by rw [p0]; omega)
    exact ⟨z, z1, z3 hy hx, z2⟩
  · rw [angT_f (by rw [hg]; exact decide_eq_false hc)]
    obtain ⟨z, z1, z2, z3⟩ := quo_P ha hb (C := 0) (D := 1074) (by omega) (by omega) (by omega) (by rw [p0]; omega)
    exact ⟨z, z1, z3 hx hy, z2⟩
theorem angI_ok {t : Nat} (h : T01 t) : ∀ j, T01 (angI t j)
  | 0 => h
  | j + 1 => by
    obtain ⟨z, h1, h2, h3⟩ := angI_ok h j
    obtain ⟨a, a1, a2, a3⟩ := mul_P h1 h1 (B := 1074) (C := 1074 + 1074) (by omega) (by omega) (by rw [P2_add]; exact Nat.mul_le_mul h3 h3)
    have a0 := a3 h2 h2
    have hp := P2_pos 1074
    have e1 : P2 1075 = 2 * P2 1074 := P2_succ 1074
    have e2 : P2 1076 = 2 * P2 1075 := P2_succ 1075
    have e3 : P2 1077 = 2 * P2 1076 := P2_succ 1076
    obtain ⟨b, b1, b2, b3, _⟩ := add_P val_one a1 (B := 1075) (by omega) (by omega)
    obtain ⟨r, s, s1, s2, s3, s4⟩ := sqrt_P b1 (b3 (by omega)) (K := 1) (C := 1076) (D := 1076) (by omega) (by omega) (by omega) (by omega)
    have hsq : sqF (fop .add .f64 4607182418800017408 (fop .mul .f64 (angI t j) (angI t j))) = r := by unfold sqF; rw [s1]; rfl
    obtain ⟨d, d1, d2, d3, _⟩ := add_P val_one s2 (B := 1077) (by omega) (by omega)
    have d4 := add_ge val_one s2 (B := 1074) (C := 1077) (by omega) (by omega) (by omega) d1
    obtain ⟨q, q1, q2, q3⟩ := quo_P h1 d1 (C := 0) (D := 1074) (by omega) (by omega) (by omega) (by rw [P2_def 0, Nat.pow_zero, Nat.mul_one]; omega)
    refine ⟨q, ?_, q3 h2 (by omega), q2⟩
    rw [angI, hsq]
    exact q1
theorem angP_ok {u : Nat} (h : T01 u) : ∀ j, j ≤ 8 → ∃ y : Int, val (angP u j) = some y ∧ y.natAbs ≤ P2 (1074 + j)
  | 0, _ => ⟨0, val_0, by simp⟩
  | j + 1, hj => by
    obtain ⟨y, y1, y2⟩ := angP_ok h j (by omega)
    obtain ⟨z, z1, _, z3⟩ := h
    obtain ⟨a, a1, a2, _⟩ := mul_P z1 y1 (B := 1074 + j) (C := 1074 + (1074 + j)) (by omega) (by omega) (by rw [P2_add 1074]; exact Nat.mul_le_mul z3 y2)
    obtain ⟨k, hk⟩ : ∃ k : Nat, (15 - 2 * (j : Int)) = (k : Int) := ⟨(15 - 2 * (j : Int)).toNat, by omega⟩
    have hp := P2_pos 1074
    obtain ⟨q, q1, q2, _⟩ := quo_P val_one (val_nat (n := k) (by show k < 4503599627370496; omega)) (C := 0) (D := 1074) (by omega) (by omega) (by
      have : k * P2 1074 ≠ 0 := Nat.mul_ne_zero (by omega) (by omega)
      omega) (by
      rw [P2_def 0, Nat.pow_zero, Nat.mul_one, Int.natAbs_natCast, Int.natAbs_natCast]
      exact Nat.le_mul_of_pos_left _ (by omega))
    obtain ⟨w, w1, w2, _⟩ := sub_P q1 a1 (B := 1074 + j + 1) (by omega) (by
      have e1 := P2_succ (1074 + j)
      have e2 : P2 1074 ≤ P2 (1074 + j) := P2_le (by omega)
      omega)
    refine ⟨w, ?_, w2⟩
    rw [angP, hk]
    exact w1
theorem val_eight : val 4620693217682128896 = some ((P2 1077 : Nat) : Int) := by
  rw [val_of_read (s := false) (m := 4503599627370496) (e := -49) (by decide +kernel), P2_def]
  decide +kernel
theorem twopi_ge : ∃ p : Int, val 4618760256179416344 = some p ∧ ((P2 1074 : Nat) : Int) ≤ p := by
  refine ⟨_, val_of_read (s := false) (m := 7074237752028440) (e := -50) (by decide +kernel), ?_⟩
  rw [P2_def]
  decide +kernel
theorem angZ_ok {t : Nat} (h : T01 t) : ∃ y : Int, val (angZ t) = some y ∧ y.natAbs ≤ P2 1085 := by
  obtain ⟨z, z1, z2, z3⟩ := h
  obtain ⟨u, u1, u2, u3⟩ := mul_P z1 z1 (B := 1074) (C := 1074 + 1074) (by omega) (by omega) (by rw [P2_add]; exact Nat.mul_le_mul z3 z3)
  obtain ⟨p, p1, p2⟩ := angP_ok ⟨u, u1, u3 z2 z2, u2⟩ 8 (by omega)
  obtain ⟨a, a1, a2, _⟩ := mul_P z1 p1 (B := 1082) (C := 1074 + (1074 + 8)) (by omega) (by omega) (by rw [P2_add]; exact Nat.mul_le_mul z3 p2)
  obtain ⟨b, b1, b2, _⟩ := mul_P val_eight a1 (B := 1085) (C := 1077 + 1082) (by omega) (by omega) (by rw [P2_add, Int.natAbs_natCast]; exact Nat.mul_le_mul (Nat.le_refl _) a2)
  obtain ⟨c, c1, c2⟩ := twopi_ge
  have hp := P2_pos 1074
  obtain ⟨q, q1, q2, _⟩ := quo_P b1 c1 (C := 11) (D := 1085) (by omega) (by omega) (by omega) (by
    refine Nat.le_trans b2 ?_
    rw [show (1085 : Nat) = 1074 + 11 by decide, P2_add]
    exact Nat.mul_le_mul_right _ (by omega))
  exact ⟨q, q1, q2⟩
theorem angG_ok {y x : Nat} {v u : Int} (hy : val y = some v) (hx : val x = some u) (h : v ≠ 0 ∨ u ≠ 0) : okcvt .f64 .f32 (angG y x) = true := by
  have hT := angT_ok (val_abs hy) (val_abs hx) (by omega) (by omega) (by omega)
  obtain ⟨z, z1, z2⟩ := angZ_ok (angI_ok hT 3)
  have e1 : P2 1086 = 2 * P2 1085 := P2_succ 1085
  have e2 : P2 1087 = 2 * P2 1086 := P2_succ 1086
  have l1 : P2 1072 ≤ P2 1085 := P2_le (by decide)
  have l2 : P2 1073 ≤ P2 1086 := P2_le (by decide)
  have l3 : P2 1085 ≤ P2 1086 := P2_le (by decide)
  have l4 : P2 1086 ≤ P2 1087 := P2_le (by decide)
  have hO : ∃ o : Int, val (angO (absF y) (absF x)) = some o ∧ o.natAbs ≤ P2 1086 := by
    cases hc : fcmp .gtr .f64 (absF y) (absF x) with
    | true =>
      rw [angO_t hc]
      obtain ⟨o, o1, o2, _⟩ := sub_P val_quart z1 (B := 1086) (by omega) (by omega)
      exact ⟨o, o1, o2⟩
    | false => rw [angO_f hc]; exact ⟨z, z1, by omega⟩
  obtain ⟨o, o1, o2⟩ := hO
  have hX : ∃ o : Int, val (angX x (angO (absF y) (absF x))) = some o ∧ o.natAbs ≤ P2 1087 := by
    cases hc : fcmp .lss .f64 x 0 with
    | true =>
      rw [angX_t hc]
      obtain ⟨p, p1, p2, _⟩ := sub_P val_half o1 (B := 1087) (by omega) (by omega)
      exact ⟨p, p1, p2⟩
    | false => rw [angX_f hc]; exact ⟨o, o1, by omega⟩
  obtain ⟨p, p1, p2⟩ := hX
  have l5 : P2 1087 ≤ P2 1174 := P2_le (by decide)
  unfold angG
  cases hc : fcmp .lss .f64 y 0 with
  | true => rw [angY_t hc]; exact okcvt_val (val_neg p1) (by rw [Int.natAbs_neg]; omega)
  | false => rw [angY_f hc]; exact okcvt_val p1 (by omega)
theorem angW_ok (y x : Nat) : okcvt .f64 .f32 (angW y x) = true := by
  cases h1 : fcmp .neq .f64 (fop .sub .f64 y y) 0 with
  | true => rw [angW_n1 h1]; decide +kernel
  | false =>
    cases h2 : fcmp .neq .f64 (fop .sub .f64 x x) 0 with
    | true => rw [angW_n2 h1 h2]; decide +kernel
    | false =>
      cases hy : val y with
      | none => rw [not_num hy] at h1; cases h1
      | some v =>
        cases hx : val x with
        | none => rw [not_num hx] at h2; cases h2
        | some u =>
          by_cases h3 : fcmp .eql .f64 x 0 = true ∧ fcmp .eql .f64 y 0 = true
          · rw [angW_0 h1 h2 h3.1 h3.2]; decide +kernel
          · have h4 : fcmp .eql .f64 x 0 = false ∨ fcmp .eql .f64 y 0 = false := by
              cases e1 : fcmp .eql .f64 x 0 with
              | false => exact .inl rfl
              | true => cases e2 : fcmp .eql .f64 y 0 with
                | false => exact .inr rfl
                | true => exact absurd ⟨e1, e2⟩ h3
            rw [angW_g h1 h2 h4]
            refine angG_ok hy hx ?_
            rcases h4 with h4 | h4
            · rw [fcmp_eql hx val_0] at h4
              exact .inr (of_decide_eq_false h4)
            · rw [fcmp_eql hy val_0] at h4
              exact .inl (of_decide_eq_false h4)
/-- the root of a 32-bit number can be narrowed -/
theorem sqF_ok (x : Nat) : okcvt .f64 .f32 (sqF (cvt .f32 .f64 x)) = true := by
  cases hq : FloatKind.f64.format.sqrt (cvt .f32 .f64 x) with
  | none =>
    have : sqF (cvt .f32 .f64 x) = qnan .f64 := by unfold sqF; rw [hq]; rfl
    rw [this]; decide +kernel
  | some r =>
    have hr : sqF (cvt .f32 .f64 x) = r := by unfold sqF; rw [hq]; rfl
    rw [hr]
    rcases read_single x with ⟨s, t, h⟩ | ⟨s, h⟩ | ⟨s, m, e, h, hm, he⟩
    · rw [wide_nan h] at hq
      have : FloatKind.f64.format.sqrt (qnan .f64) = none := by decide +kernel
      rw [this] at hq; cases hq
    · have hi := wide_inf h
      unfold Ieee.Format.sqrt at hq
      have hi' : FloatKind.f64.format.read (cvt .f32 .f64 x) = .infinity s := hi
      rw [hi'] at hq
      cases s
      · simp only [Ieee.Datum.root, Option.map_some, Option.some.injEq, Bool.false_eq_true, if_false] at hq
        rw [← hq]; decide +kernel
      · simp [Ieee.Datum.root] at hq
    · obtain ⟨_, hv⟩ := wide h hm he
      by_cases hs : s = false ∨ m = 0
      · have hpos : 0 ≤ Ieee.signed s m (e + 1074).toNat := by
          rcases hs with rfl | rfl
          · exact signed_nonneg _ _
          · rw [signed_zero]; omega
        obtain ⟨r', z, r1, z1, z2, _⟩ := sqrt_P hv hpos (K := 64) (C := 1202) (D := 1139) (by omega) (by omega) (by omega) (by
          rw [signed_abs, ← P2_def (e + 1074).toNat]
          refine Nat.le_trans (Nat.mul_le_mul_right _ (Nat.le_of_lt hm)) ?_
          rw [show (16777216 : Nat) = P2 24 by rw [P2_def], ← P2_add]
          exact P2_le (by omega))
        rw [hq] at r1
        cases r1
        exact okcvt_val z1 (Nat.le_trans z2 (P2_le (by decide)))
      · exfalso
        have hs1 : s = true := by cases s <;> simp_all
        have hm0 : m ≠ 0 := fun h9 => hs (.inr h9)
        obtain ⟨s', m', e', hr', _, hx'⟩ := read_some hv
        unfold Ieee.Format.sqrt at hq
        have hr'' : FloatKind.f64.format.read (cvt .f32 .f64 x) = .number s' m' e' := hr'
        rw [hr''] at hq
        subst hs1
        have hneg : Ieee.signed true m (e + 1074).toNat < 0 := by
          have h1 := signed_nonpos m (e + 1074).toNat
          have h2 := signed_abs true m (e + 1074).toNat
          have h3 := Nat.two_pow_pos (e + 1074).toNat
          have h4 : m * 2 ^ (e + 1074).toNat ≠ 0 := Nat.mul_ne_zero hm0 (by omega)
          omega
        rw [hx'] at hneg
        have hs' : s' = true := by
          cases s'
          · have := signed_nonneg m' (e' + 1074).toNat; omega
          · rfl
        have hm' : m' ≠ 0 := fun h9 => by rw [h9, signed_zero] at hneg; omega
        subst hs'
        simp [Ieee.Datum.root, hm'] at hq
theorem cvt_00 : cvt .f64 .f32 0 = 0 := by decide +kernel
def angA (y x : Nat) : Nat := cvt .f64 .f32 (angW (cvt .f32 .f64 y) (cvt .f32 .f64 x))
theorem neq_of_fin {x : Nat} (h : finB x = true) : fcmp .neq .f64 (fop .sub .f64 (cvt .f32 .f64 x) (cvt .f32 .f64 x)) 0 = false := by
  rw [← finW] at h
  show (!fcmp .eql .f64 (fop .sub .f64 (cvt .f32 .f64 x) (cvt .f32 .f64 x)) 0) = false
  rw [h]; rfl
theorem neq_of_nfin {x : Nat} (h : finB x = false) : fcmp .neq .f64 (fop .sub .f64 (cvt .f32 .f64 x) (cvt .f32 .f64 x)) 0 = true := by
  rw [← finW] at h
  show (!fcmp .eql .f64 (fop .sub .f64 (cvt .f32 .f64 x) (cvt .f32 .f64 x)) 0) = true
  rw [h]; rfl
theorem cmp_w0 {op : BinOp} {x : Nat} (h : finB x = true) : fcmp op .f64 (cvt .f32 .f64 x) 0 = fcmp op .f32 x 0 := by
  have h0 : cvt .f32 .f64 0 = 0 := by decide +kernel
  have := cmp_wide (op := op) (y := 0) h (by decide +kernel)
  rwa [h0] at this
theorem angA_nan {y x : Nat} (h : (finB x && finB y) = false) : angA y x = cvt .f64 .f32 9221120237041090561 := by
  rw [angA]
  cases hy : finB y with
  | false => rw [angW_n1 (neq_of_nfin hy)]
  | true =>
    cases hx : finB x with
    | false => rw [angW_n2 (neq_of_fin hy) (neq_of_nfin hx)]
    | true => rw [hx, hy] at h; cases h
theorem angG_ok2 {y x : Nat} (h : fcmp .neq .f64 (fop .sub .f64 y y) 0 = false) (h2 : fcmp .neq .f64 (fop .sub .f64 x x) 0 = false) (h3 : fcmp .eql .f64 x 0 = false ∨ fcmp .eql .f64 y 0 = false) : okcvt .f64 .f32 (angG y x) = true := by
  rw [← angW_g h h2 h3]; exact angW_ok _ _
theorem sqrtC {w0 : World} {σ : Sg} (t : Nat) :
    FnV Try.prog w0 101 [(.float .f64 t)] σ (.float .f64 (sqF t)) := by
  unfold FnV
  refine Fn.of_W 5 Try.func101 rfl Try.ntmps101 rfl ?_
  refine W.seq ?_
  refine W.region ?_
  refine L.v (o_assign (v := (.float .f64 0)) rfl) ?_
  refine L.nil ?_
  refine W.seq ?_
  refine W.region ?_
  refine L.v (o_move (v := (.float .f64 t)) rfl) ?_
  refine L.v (o_sqrt Try.func111 (by kernel_rfl) (by kernel_rfl) (by kernel_rfl) (by kernel_rfl) rfl) ?_
  refine L.v (o_assign (v := (.float .f64 (sqF t))) rfl) ?_
  refine L.nil ?_
  refine W.ret ?_
  exact RetK.one σ (.float .f64 (sqF t)) rfl rfl (Ext.refl _) ⟨rfl, rfl⟩

theorem specAngW {w0 : World} {σ : Sg} (y x : Nat) :
    FnV Try.prog w0 100 [(.float .f64 y), (.float .f64 x)] σ (.float .f64 (angW y x)) := by
  unfold FnV
  refine Fn.of_W 88 Try.func100 rfl Try.ntmps100 rfl ?_
  refine W.seq ?_
  refine W.region ?_
  refine L.v (o_assign (v := (.float .f64 0)) rfl) ?_
  refine L.nil ?_
  refine W.seq ?_
  refine W.seq ?_
  refine W.region ?_
  refine L.v (o_move (v := (.float .f64 y)) rfl) ?_
  refine L.v (o_move (v := (.float .f64 y)) rfl) ?_
  refine L.v (o_farith (k := .f64) (a := y) (b := y) rfl rfl rfl) ?_
  refine L.v (o_fcmp (k := .f64) (a := fop .sub .f64 y y) (b := 0) rfl rfl rfl rfl) ?_
  refine L.v (o_move (v := (.bool (fcmp .neq .f64 (fop .sub .f64 y y) 0))) rfl) ?_
  rcases Bool.eq_false_or_eq_true (fcmp .neq .f64 (fop .sub .f64 y y) 0) with q1 | q1
  ·
    refine L.gF (j := 4) (d₁ := 18) (b := fcmp .neq .f64 (fop .sub .f64 y y) 0) rfl rfl rfl q1 ?_
    refine L.gF (j := 4) (d₁ := 18) (b := fcmp .neq .f64 (fop .sub .f64 y y) 0) rfl rfl rfl q1 ?_
    refine L.gF (j := 4) (d₁ := 18) (b := fcmp .neq .f64 (fop .sub .f64 y y) 0) rfl rfl rfl q1 ?_
    refine L.gF (j := 4) (d₁ := 18) (b := fcmp .neq .f64 (fop .sub .f64 y y) 0) rfl rfl rfl q1 ?_
    refine L.v (o_pickT (b := fcmp .neq .f64 (fop .sub .f64 y y) 0) (v := (.bool true)) rfl q1 rfl) ?_
    refine L.nil ?_
    refine W.condT (b := true) rfl rfl ?_
    refine W.seq ?_
    refine W.region ?_
    refine L.v (v := (.float .f64 9221120237041090561)) (op_call [] Try.call84 rfl (nanC)) ?_
    refine L.v (o_assign (v := (.float .f64 9221120237041090561)) rfl) ?_
    refine L.nil ?_
    refine W.ret ?_
    exact RetK.one σ (.float .f64 9221120237041090561) rfl rfl (Ext.refl _) ⟨by first | (rw [angW_n1 (by assumption)]; done) | (rw [angW_n2 (by assumption) (by assumption)]; done) | (rw [angW_0 (by assumption) (by assumption) (by assumption) (by assumption)]; done) | (rw [angW_g (by assumption) (by assumption) (.inl (by assumption)), angG, angY_t (by assumption)]; done) | (rw [angW_g (by assumption) (by assumption) (.inl (by assumption)), angG, angY_f (by assumption)]; done) | (rw [angW_g (by assumption) (by assumption) (.inr (by assumption)), angG, angY_t (by assumption)]; done) | (rw [angW_g (by assumption) (by assumption) (.inr (by assumption)), angG, angY_f (by assumption)]; done), rfl⟩
  ·
    refine L.gv (j := 4) (d₁ := 18) (b := fcmp .neq .f64 (fop .sub .f64 y y) 0) rfl rfl rfl q1 (o_move (v := (.float .f64 x)) rfl) ?_
    refine L.gv (j := 4) (d₁ := 18) (b := fcmp .neq .f64 (fop .sub .f64 y y) 0) rfl rfl rfl q1 (o_move (v := (.float .f64 x)) rfl) ?_
    refine L.gv (j := 4) (d₁ := 18) (b := fcmp .neq .f64 (fop .sub .f64 y y) 0) rfl rfl rfl q1 (o_farith (k := .f64) (a := x) (b := x) rfl rfl rfl) ?_
    refine L.gv (j := 4) (d₁ := 18) (b := fcmp .neq .f64 (fop .sub .f64 y y) 0) rfl rfl rfl q1 (o_fcmp (k := .f64) (a := fop .sub .f64 x x) (b := 0) rfl rfl rfl rfl) ?_
    refine L.v (o_pickF (b := fcmp .neq .f64 (fop .sub .f64 y y) 0) (v := (.bool (fcmp .neq .f64 (fop .sub .f64 x x) 0))) rfl q1 rfl) ?_
    refine L.nil ?_
    refine W.cond (b := fcmp .neq .f64 (fop .sub .f64 x x) 0) rfl (fun q2 => ?_) (fun q2 => ?_)
    ·
      refine W.seq ?_
      refine W.region ?_
      refine L.v (v := (.float .f64 9221120237041090561)) (op_call [] Try.call84 rfl (nanC)) ?_
      refine L.v (o_assign (v := (.float .f64 9221120237041090561)) rfl) ?_
      refine L.nil ?_
      refine W.ret ?_
      exact RetK.one σ (.float .f64 9221120237041090561) rfl rfl (Ext.refl _) ⟨by first | (rw [angW_n1 (by assumption)]; done) | (rw [angW_n2 (by assumption) (by assumption)]; done) | (rw [angW_0 (by assumption) (by assumption) (by assumption) (by assumption)]; done) | (rw [angW_g (by assumption) (by assumption) (.inl (by assumption)), angG, angY_t (by assumption)]; done) | (rw [angW_g (by assumption) (by assumption) (.inl (by assumption)), angG, angY_f (by assumption)]; done) | (rw [angW_g (by assumption) (by assumption) (.inr (by assumption)), angG, angY_t (by assumption)]; done) | (rw [angW_g (by assumption) (by assumption) (.inr (by assumption)), angG, angY_f (by assumption)]; done), rfl⟩
    ·
      refine W.skip ?_
      refine W.seq ?_
      refine W.seq ?_
      refine W.region ?_
      refine L.v (o_move (v := (.float .f64 x)) rfl) ?_
      refine L.v (o_fcmp (k := .f64) (a := x) (b := 0) rfl rfl rfl rfl) ?_
      refine L.v (o_move (v := (.bool (fcmp .eql .f64 x 0))) rfl) ?_
      rcases Bool.eq_false_or_eq_true (fcmp .eql .f64 x 0) with q3 | q3
      ·
        refine L.gv (j := 2) (d₁ := 27) (b := fcmp .eql .f64 x 0) rfl rfl rfl q3 (o_move (v := (.float .f64 y)) rfl) ?_
        refine L.gv (j := 2) (d₁ := 27) (b := fcmp .eql .f64 x 0) rfl rfl rfl q3 (o_fcmp (k := .f64) (a := y) (b := 0) rfl rfl rfl rfl) ?_
        refine L.v (o_pickT (b := fcmp .eql .f64 x 0) (v := (.bool (fcmp .eql .f64 y 0))) rfl q3 rfl) ?_
        refine L.nil ?_
        refine W.cond (b := fcmp .eql .f64 y 0) rfl (fun q4 => ?_) (fun q4 => ?_)
        ·
          refine W.seq ?_
          refine W.region ?_
          refine L.v (o_assign (v := (.float .f64 0)) rfl) ?_
          refine L.nil ?_
          refine W.ret ?_
          exact RetK.one σ (.float .f64 0) rfl rfl (Ext.refl _) ⟨by first | (rw [angW_n1 (by assumption)]; done) | (rw [angW_n2 (by assumption) (by assumption)]; done) | (rw [angW_0 (by assumption) (by assumption) (by assumption) (by assumption)]; done) | (rw [angW_g (by assumption) (by assumption) (.inl (by assumption)), angG, angY_t (by assumption)]; done) | (rw [angW_g (by assumption) (by assumption) (.inl (by assumption)), angG, angY_f (by assumption)]; done) | (rw [angW_g (by assumption) (by assumption) (.inr (by assumption)), angG, angY_t (by assumption)]; done) | (rw [angW_g (by assumption) (by assumption) (.inr (by assumption)), angG, angY_f (by assumption)]; done), rfl⟩
        ·
          refine W.skip ?_
          refine W.seq ?_
          refine W.region ?_
          refine L.v (o_move (v := (.float .f64 y)) rfl) ?_
          refine L.v (v := (.float .f64 (absF y))) (op_call [(.float .f64 y)] Try.call85 rfl (absC y)) ?_
          refine L.v (o_assign (v := (.float .f64 (absF y))) rfl) ?_
          refine L.nil ?_
          refine W.seq ?_
          refine W.region ?_
          refine L.v (o_move (v := (.float .f64 x)) rfl) ?_
          refine L.v (v := (.float .f64 (absF x))) (op_call [(.float .f64 x)] Try.call85 rfl (absC x)) ?_
          refine L.v (o_assign (v := (.float .f64 (absF x))) rfl) ?_
          refine L.nil ?_
          refine W.seq ?_
          refine W.region ?_
          refine L.v (o_move (v := (.float .f64 (absF y))) rfl) ?_
          refine L.v (o_move (v := (.float .f64 (absF x))) rfl) ?_
          refine L.v (o_fcmp (k := .f64) (a := absF y) (b := absF x) rfl rfl rfl rfl) ?_
          refine L.v (o_assign (v := (.bool (fcmp .gtr .f64 (absF y) (absF x)))) rfl) ?_
          refine L.nil ?_
          refine W.seq ?_
          refine W.region ?_
          refine L.v (o_assign (v := (.float .f64 0)) rfl) ?_
          refine L.nil ?_
          refine W.seq ?_
          refine W.seq ?_
          refine W.region ?_
          refine L.v (o_move (v := (.bool (fcmp .gtr .f64 (absF y) (absF x)))) rfl) ?_
          refine L.nil ?_
          refine W.join (fun tt ss => FrOk tt [(0, (.float .f64 y)), (1, (.float .f64 x)), (5, (.float .f64 (absF y))), (6, (.float .f64 (absF x))), (7, (.bool (fcmp .gtr .f64 (absF y) (absF x)))), (8, (.float .f64 (angT (absF y) (absF x))))] ∧ ss = σ) ?_ ?_
          ·
            refine W.cond (b := fcmp .gtr .f64 (absF y) (absF x)) rfl (fun q7 => ?_) (fun q7 => ?_)
            ·
              refine W.region ?_
              refine L.v (o_move (v := (.float .f64 (absF x))) rfl) ?_
              refine L.v (o_move (v := (.float .f64 (absF y))) rfl) ?_
              refine L.v (o_farith (k := .f64) (a := absF x) (b := absF y) rfl rfl rfl) ?_
              refine L.v (o_assign (v := (.float .f64 (fop .quo .f64 (absF x) (absF y)))) rfl) ?_
              refine L.nil ?_
              exact ⟨⟨rfl, rfl, rfl, rfl, rfl, (by first | (rw [angT_t (by assumption)]; rfl) | (rw [angT_f (by assumption)]; rfl)), trivial⟩, rfl⟩
            ·
              refine W.region ?_
              refine L.v (o_move (v := (.float .f64 (absF y))) rfl) ?_
              refine L.v (o_move (v := (.float .f64 (absF x))) rfl) ?_
              refine L.v (o_farith (k := .f64) (a := absF y) (b := absF x) rfl rfl rfl) ?_
              refine L.v (o_assign (v := (.float .f64 (fop .quo .f64 (absF y) (absF x)))) rfl) ?_
              refine L.nil ?_
              exact ⟨⟨rfl, rfl, rfl, rfl, rfl, (by first | (rw [angT_t (by assumption)]; rfl) | (rw [angT_f (by assumption)]; rfl)), trivial⟩, rfl⟩
          ·
            rintro t6 s9 ⟨f5, e9⟩
            rw [e9]
            replace f5 : (upd (upd (upd (upd (upd (upd t6 0 (.float .f64 y)) 1 (.float .f64 x)) 5 (.float .f64 (absF y))) 6 (.float .f64 (absF x))) 7 (.bool (fcmp .gtr .f64 (absF y) (absF x)))) 8 (.float .f64 (angT (absF y) (absF x)))) = t6 := frame_ok f5
            rw [← f5]
            clear f5
            refine W.seq ?_
            refine W.seq ?_
            refine W.region ?_
            refine L.v (o_assign (v := (.int .i64 0)) rfl) ?_
            refine L.nil ?_
            refine W.block ?_
            refine W.loop (fun nn tt ss => ∃ (j : Nat), nn = 3 - j ∧ (j ≤ 3) ∧ FrOk tt [(0, (.float .f64 y)), (1, (.float .f64 x)), (7, (.bool (fcmp .gtr .f64 (absF y) (absF x)))), (8, (.float .f64 (angI (angT (absF y) (absF x)) j))), (9, (.int .i64 (j : Int)))] ∧ σ = ss) _ ⟨0, rfl, (by omega), ⟨rfl, rfl, rfl, rfl, rfl, trivial⟩, rfl⟩ ?_
            rintro _ t8 _ ⟨j, rfl, hj, f9, rfl⟩
            rw [← frame_ok f9]
            show W _ _ _ _ _ (upd (upd (upd (upd (upd t8 0 (.float .f64 y)) 1 (.float .f64 x)) 7 (.bool (fcmp .gtr .f64 (absF y) (absF x)))) 8 (.float .f64 (angI (angT (absF y) (absF x)) j))) 9 (.int .i64 (j : Int))) _
            refine W.seq ?_
            refine W.seq ?_
            refine W.region ?_
            refine L.v (o_move (v := (.int .i64 (j : Int))) rfl) ?_
            refine L.v (o_ilss (a := (j : Int)) (b := 3) rfl rfl rfl) ?_
            refine L.nil ?_
            refine W.cond (b := decide (((j : Int) : Int) < 3)) rfl (fun q10 => ?_) (fun q10 => ?_)
            ·
              have a11 : ((j : Int) : Int) < 3 := of_decide_eq_true q10
              refine W.skip ?_
              refine W.seq ?_
              refine W.block ?_
              refine W.region ?_
              refine L.v (o_move (v := (.float .f64 (angI (angT (absF y) (absF x)) j))) rfl) ?_
              refine L.v (o_move (v := (.float .f64 (angI (angT (absF y) (absF x)) j))) rfl) ?_
              refine L.v (o_move (v := (.float .f64 (angI (angT (absF y) (absF x)) j))) rfl) ?_
              refine L.v (o_farith (k := .f64) (a := angI (angT (absF y) (absF x)) j) (b := angI (angT (absF y) (absF x)) j) rfl rfl rfl) ?_
              refine L.v (o_farith (k := .f64) (a := 4607182418800017408) (b := fop .mul .f64 (angI (angT (absF y) (absF x)) j) (angI (angT (absF y) (absF x)) j)) rfl rfl rfl) ?_
              refine L.v (v := (.float .f64 (sqF (fop .add .f64 4607182418800017408 (fop .mul .f64 (angI (angT (absF y) (absF x)) j) (angI (angT (absF y) (absF x)) j)))))) (op_call [(.float .f64 (fop .add .f64 4607182418800017408 (fop .mul .f64 (angI (angT (absF y) (absF x)) j) (angI (angT (absF y) (absF x)) j))))] Try.call101 rfl (sqrtC (fop .add .f64 4607182418800017408 (fop .mul .f64 (angI (angT (absF y) (absF x)) j) (angI (angT (absF y) (absF x)) j))))) ?_
              refine L.v (o_farith (k := .f64) (a := 4607182418800017408) (b := sqF (fop .add .f64 4607182418800017408 (fop .mul .f64 (angI (angT (absF y) (absF x)) j) (angI (angT (absF y) (absF x)) j)))) rfl rfl rfl) ?_
              refine L.v (o_farith (k := .f64) (a := angI (angT (absF y) (absF x)) j) (b := fop .add .f64 4607182418800017408 (sqF (fop .add .f64 4607182418800017408 (fop .mul .f64 (angI (angT (absF y) (absF x)) j) (angI (angT (absF y) (absF x)) j))))) rfl rfl rfl) ?_
              refine L.v (o_assign (v := (.float .f64 (fop .quo .f64 (angI (angT (absF y) (absF x)) j) (fop .add .f64 4607182418800017408 (sqF (fop .add .f64 4607182418800017408 (fop .mul .f64 (angI (angT (absF y) (absF x)) j) (angI (angT (absF y) (absF x)) j)))))))) rfl) ?_
              refine L.nil ?_
              refine W.region ?_
              refine L.v (o_move (v := (.int .i64 (j : Int))) rfl) ?_
              refine L.v (o_iadd (a := (j : Int)) (b := 1) (c := ((j + 1 : Nat) : Int)) rfl rfl (by rw [IntWalk.i64_in _ (by omega)]; try omega)) ?_
              refine L.v (o_assign (v := (.int .i64 (((j + 1 : Nat) : Int)))) rfl) ?_
              refine L.nil ?_
              exact ⟨_, (by omega), j + 1, rfl, (by omega), ⟨rfl, rfl, rfl, rfl, rfl, trivial⟩, rfl⟩
            ·
              have a12 : ¬ (((j : Int) : Int) < 3) := of_decide_eq_false q10
              refine W.exit ?_
              refine W.seq ?_
              obtain rfl : j = 3 := by omega
              refine W.region ?_
              refine L.v (o_move (v := (.float .f64 (angI (angT (absF y) (absF x)) 3))) rfl) ?_
              refine L.v (o_move (v := (.float .f64 (angI (angT (absF y) (absF x)) 3))) rfl) ?_
              refine L.v (o_farith (k := .f64) (a := angI (angT (absF y) (absF x)) 3) (b := angI (angT (absF y) (absF x)) 3) rfl rfl rfl) ?_
              refine L.v (o_assign (v := (.float .f64 (fop .mul .f64 (angI (angT (absF y) (absF x)) 3) (angI (angT (absF y) (absF x)) 3)))) rfl) ?_
              refine L.nil ?_
              refine W.seq ?_
              refine W.region ?_
              refine L.v (o_assign (v := (.float .f64 0)) rfl) ?_
              refine L.nil ?_
              refine W.seq ?_
              refine W.seq ?_
              refine W.region ?_
              refine L.v (o_assign (v := (.int .i64 15)) rfl) ?_
              refine L.nil ?_
              refine W.block ?_
              refine W.loop (fun nn tt ss => ∃ (j : Nat), nn = 8 - j ∧ (j ≤ 8) ∧ FrOk tt [(0, (.float .f64 y)), (1, (.float .f64 x)), (7, (.bool (fcmp .gtr .f64 (absF y) (absF x)))), (8, (.float .f64 (angI (angT (absF y) (absF x)) 3))), (10, (.float .f64 (fop .mul .f64 (angI (angT (absF y) (absF x)) 3) (angI (angT (absF y) (absF x)) 3)))), (11, (.float .f64 (angP (fop .mul .f64 (angI (angT (absF y) (absF x)) 3) (angI (angT (absF y) (absF x)) 3)) j))), (12, (.int .i64 (15 - 2 * (j : Int))))] ∧ σ = ss) _ ⟨0, rfl, (by omega), ⟨rfl, rfl, rfl, rfl, rfl, rfl, (by show Value.int .i64 _ = _; congr 1), trivial⟩, rfl⟩ ?_
              rintro _ t13 _ ⟨j, rfl, hj, f14, rfl⟩
              rw [← frame_ok f14]
              show W _ _ _ _ _ (upd (upd (upd (upd (upd (upd (upd t13 0 (.float .f64 y)) 1 (.float .f64 x)) 7 (.bool (fcmp .gtr .f64 (absF y) (absF x)))) 8 (.float .f64 (angI (angT (absF y) (absF x)) 3))) 10 (.float .f64 (fop .mul .f64 (angI (angT (absF y) (absF x)) 3) (angI (angT (absF y) (absF x)) 3)))) 11 (.float .f64 (angP (fop .mul .f64 (angI (angT (absF y) (absF x)) 3) (angI (angT (absF y) (absF x)) 3)) j))) 12 (.int .i64 (15 - 2 * (j : Int)))) _
              refine W.seq ?_
              refine W.seq ?_
              refine W.region ?_
              refine L.v (o_move (v := (.int .i64 (15 - 2 * (j : Int)))) rfl) ?_
              refine L.v (o_igeq (a := 15 - 2 * (j : Int)) (b := 1) rfl rfl rfl) ?_
              refine L.nil ?_
              refine W.cond (b := decide ((1 : Int) ≤ (15 - 2 * (j : Int)))) rfl (fun q15 => ?_) (fun q15 => ?_)
              ·
                have a16 : (1 : Int) ≤ (15 - 2 * (j : Int)) := of_decide_eq_true q15
                refine W.skip ?_
                refine W.seq ?_
                refine W.block ?_
                refine W.region ?_
                refine L.v (o_move (v := (.int .i64 (15 - 2 * (j : Int)))) rfl) ?_
                refine L.v (o_cvIF (a := 15 - 2 * (j : Int)) (by rw [Try.underlying3]; rfl) Try.underlying30 rfl) ?_
                refine L.v (o_farith (k := .f64) (a := 4607182418800017408) (b := FloatKind.nearest .f64 (15 - 2 * (j : Int))) rfl rfl rfl) ?_
                refine L.v (o_move (v := (.float .f64 (fop .mul .f64 (angI (angT (absF y) (absF x)) 3) (angI (angT (absF y) (absF x)) 3)))) rfl) ?_
                refine L.v (o_move (v := (.float .f64 (angP (fop .mul .f64 (angI (angT (absF y) (absF x)) 3) (angI (angT (absF y) (absF x)) 3)) j))) rfl) ?_
                refine L.v (o_farith (k := .f64) (a := fop .mul .f64 (angI (angT (absF y) (absF x)) 3) (angI (angT (absF y) (absF x)) 3)) (b := angP (fop .mul .f64 (angI (angT (absF y) (absF x)) 3) (angI (angT (absF y) (absF x)) 3)) j) rfl rfl rfl) ?_
                refine L.v (o_farith (k := .f64) (a := fop .quo .f64 4607182418800017408 (FloatKind.nearest .f64 (15 - 2 * (j : Int)))) (b := fop .mul .f64 (fop .mul .f64 (angI (angT (absF y) (absF x)) 3) (angI (angT (absF y) (absF x)) 3)) (angP (fop .mul .f64 (angI (angT (absF y) (absF x)) 3) (angI (angT (absF y) (absF x)) 3)) j)) rfl rfl rfl) ?_
                refine L.v (o_assign (v := (.float .f64 (fop .sub .f64 (fop .quo .f64 4607182418800017408 (FloatKind.nearest .f64 (15 - 2 * (j : Int)))) (fop .mul .f64 (fop .mul .f64 (angI (angT (absF y) (absF x)) 3) (angI (angT (absF y) (absF x)) 3)) (angP (fop .mul .f64 (angI (angT (absF y) (absF x)) 3) (angI (angT (absF y) (absF x)) 3)) j))))) rfl) ?_
                refine L.nil ?_
                refine W.region ?_
                refine L.v (o_move (v := (.int .i64 (15 - 2 * (j : Int)))) rfl) ?_
                refine L.v (o_isub (a := 15 - 2 * (j : Int)) (b := 2) (c := 15 - 2 * ((j + 1 : Nat) : Int)) rfl rfl (by rw [IntWalk.i64_in _ (by omega)]; try (push_cast; omega))) ?_
                refine L.v (o_assign (v := (.int .i64 (15 - 2 * ((j + 1 : Nat) : Int)))) rfl) ?_
                refine L.nil ?_
                exact ⟨_, (by omega), j + 1, rfl, (by omega), ⟨rfl, rfl, rfl, rfl, rfl, rfl, rfl, trivial⟩, rfl⟩
              ·
                have a17 : ¬ ((1 : Int) ≤ (15 - 2 * (j : Int))) := of_decide_eq_false q15
                refine W.exit ?_
                refine W.seq ?_
                obtain rfl : j = 8 := by omega
                refine W.region ?_
                refine L.v (o_move (v := (.float .f64 (angI (angT (absF y) (absF x)) 3))) rfl) ?_
                refine L.v (o_move (v := (.float .f64 (angP (fop .mul .f64 (angI (angT (absF y) (absF x)) 3) (angI (angT (absF y) (absF x)) 3)) 8))) rfl) ?_
                refine L.v (o_farith (k := .f64) (a := angI (angT (absF y) (absF x)) 3) (b := angP (fop .mul .f64 (angI (angT (absF y) (absF x)) 3) (angI (angT (absF y) (absF x)) 3)) 8) rfl rfl rfl) ?_
                refine L.v (o_farith (k := .f64) (a := 4620693217682128896) (b := fop .mul .f64 (angI (angT (absF y) (absF x)) 3) (angP (fop .mul .f64 (angI (angT (absF y) (absF x)) 3) (angI (angT (absF y) (absF x)) 3)) 8)) rfl rfl rfl) ?_
                refine L.v (o_farith (k := .f64) (a := fop .mul .f64 4620693217682128896 (fop .mul .f64 (angI (angT (absF y) (absF x)) 3) (angP (fop .mul .f64 (angI (angT (absF y) (absF x)) 3) (angI (angT (absF y) (absF x)) 3)) 8))) (b := 4618760256179416344) rfl rfl rfl) ?_
                refine L.v (o_assign (v := (.float .f64 (fop .quo .f64 (fop .mul .f64 4620693217682128896 (fop .mul .f64 (angI (angT (absF y) (absF x)) 3) (angP (fop .mul .f64 (angI (angT (absF y) (absF x)) 3) (angI (angT (absF y) (absF x)) 3)) 8))) 4618760256179416344))) rfl) ?_
                refine L.nil ?_
                refine W.seq ?_
                refine W.seq ?_
                refine W.region ?_
                refine L.v (o_move (v := (.bool (fcmp .gtr .f64 (absF y) (absF x)))) rfl) ?_
                refine L.nil ?_
                refine W.join (fun tt ss => FrOk tt [(0, (.float .f64 y)), (1, (.float .f64 x)), (13, (.float .f64 (angO (absF y) (absF x))))] ∧ ss = σ) ?_ ?_
                ·
                  refine W.cond (b := fcmp .gtr .f64 (absF y) (absF x)) rfl (fun q20 => ?_) (fun q20 => ?_)
                  ·
                    refine W.region ?_
                    refine L.v (o_move (v := (.float .f64 (fop .quo .f64 (fop .mul .f64 4620693217682128896 (fop .mul .f64 (angI (angT (absF y) (absF x)) 3) (angP (fop .mul .f64 (angI (angT (absF y) (absF x)) 3) (angI (angT (absF y) (absF x)) 3)) 8))) 4618760256179416344))) rfl) ?_
                    refine L.v (o_farith (k := .f64) (a := 4598175219545276416) (b := fop .quo .f64 (fop .mul .f64 4620693217682128896 (fop .mul .f64 (angI (angT (absF y) (absF x)) 3) (angP (fop .mul .f64 (angI (angT (absF y) (absF x)) 3) (angI (angT (absF y) (absF x)) 3)) 8))) 4618760256179416344) rfl rfl rfl) ?_
                    refine L.v (o_assign (v := (.float .f64 (fop .sub .f64 4598175219545276416 (fop .quo .f64 (fop .mul .f64 4620693217682128896 (fop .mul .f64 (angI (angT (absF y) (absF x)) 3) (angP (fop .mul .f64 (angI (angT (absF y) (absF x)) 3) (angI (angT (absF y) (absF x)) 3)) 8))) 4618760256179416344)))) rfl) ?_
                    refine L.nil ?_
                    exact ⟨⟨rfl, rfl, (by first | (rw [angO_t (by assumption)]; rfl) | (rw [angO_f (by assumption)]; rfl)), trivial⟩, rfl⟩
                  ·
                    refine W.skip ?_
                    exact ⟨⟨rfl, rfl, (by first | (rw [angO_t (by assumption)]; rfl) | (rw [angO_f (by assumption)]; rfl)), trivial⟩, rfl⟩
                ·
                  rintro t19 s9 ⟨f18, e9⟩
                  rw [e9]
                  replace f18 : (upd (upd (upd t19 0 (.float .f64 y)) 1 (.float .f64 x)) 13 (.float .f64 (angO (absF y) (absF x)))) = t19 := frame_ok f18
                  rw [← f18]
                  clear f18
                  refine W.seq ?_
                  refine W.seq ?_
                  refine W.region ?_
                  refine L.v (o_move (v := (.float .f64 x)) rfl) ?_
                  refine L.v (o_fcmp (k := .f64) (a := x) (b := 0) rfl rfl rfl rfl) ?_
                  refine L.nil ?_
                  refine W.join (fun tt ss => FrOk tt [(0, (.float .f64 y)), (13, (.float .f64 (angX x (angO (absF y) (absF x)))))] ∧ ss = σ) ?_ ?_
                  ·
                    refine W.cond (b := fcmp .lss .f64 x 0) rfl (fun q23 => ?_) (fun q23 => ?_)
                    ·
                      refine W.region ?_
                      refine L.v (o_move (v := (.float .f64 (angO (absF y) (absF x)))) rfl) ?_
                      refine L.v (o_farith (k := .f64) (a := 4602678819172646912) (b := angO (absF y) (absF x)) rfl rfl rfl) ?_
                      refine L.v (o_assign (v := (.float .f64 (fop .sub .f64 4602678819172646912 (angO (absF y) (absF x))))) rfl) ?_
                      refine L.nil ?_
                      exact ⟨⟨rfl, (by first | (rw [angX_t (by assumption)]; rfl) | (rw [angX_f (by assumption)]; rfl)), trivial⟩, rfl⟩
                    ·
                      refine W.skip ?_
                      exact ⟨⟨rfl, (by first | (rw [angX_t (by assumption)]; rfl) | (rw [angX_f (by assumption)]; rfl)), trivial⟩, rfl⟩
                  ·
                    rintro t22 s9 ⟨f21, e9⟩
                    rw [e9]
                    replace f21 : (upd (upd t22 0 (.float .f64 y)) 13 (.float .f64 (angX x (angO (absF y) (absF x))))) = t22 := frame_ok f21
                    rw [← f21]
                    clear f21
                    refine W.seq ?_
                    refine W.seq ?_
                    refine W.region ?_
                    refine L.v (o_move (v := (.float .f64 y)) rfl) ?_
                    refine L.v (o_fcmp (k := .f64) (a := y) (b := 0) rfl rfl rfl rfl) ?_
                    refine L.nil ?_
                    refine W.cond (b := fcmp .lss .f64 y 0) rfl (fun q24 => ?_) (fun q24 => ?_)
                    ·
                      refine W.seq ?_
                      refine W.region ?_
                      refine L.v (o_move (v := (.float .f64 (angX x (angO (absF y) (absF x))))) rfl) ?_
                      refine L.v (o_fneg (k := .f64) (a := angX x (angO (absF y) (absF x))) rfl) ?_
                      refine L.v (o_assign (v := (.float .f64 (Op.negFloat .f64 (angX x (angO (absF y) (absF x)))))) rfl) ?_
                      refine L.nil ?_
                      refine W.ret ?_
                      exact RetK.one σ (.float .f64 (Op.negFloat .f64 (angX x (angO (absF y) (absF x))))) rfl rfl (Ext.refl _) ⟨by first | (rw [angW_n1 (by assumption)]; done) | (rw [angW_n2 (by assumption) (by assumption)]; done) | (rw [angW_0 (by assumption) (by assumption) (by assumption) (by assumption)]; done) | (rw [angW_g (by assumption) (by assumption) (.inl (by assumption)), angG, angY_t (by assumption)]; done) | (rw [angW_g (by assumption) (by assumption) (.inl (by assumption)), angG, angY_f (by assumption)]; done) | (rw [angW_g (by assumption) (by assumption) (.inr (by assumption)), angG, angY_t (by assumption)]; done) | (rw [angW_g (by assumption) (by assumption) (.inr (by assumption)), angG, angY_f (by assumption)]; done), rfl⟩
                    ·
                      refine W.skip ?_
                      refine W.seq ?_
                      refine W.region ?_
                      refine L.v (o_move (v := (.float .f64 (angX x (angO (absF y) (absF x))))) rfl) ?_
                      refine L.v (o_assign (v := (.float .f64 (angX x (angO (absF y) (absF x))))) rfl) ?_
                      refine L.nil ?_
                      refine W.ret ?_
                      exact RetK.one σ (.float .f64 (angX x (angO (absF y) (absF x)))) rfl rfl (Ext.refl _) ⟨by first | (rw [angW_n1 (by assumption)]; done) | (rw [angW_n2 (by assumption) (by assumption)]; done) | (rw [angW_0 (by assumption) (by assumption) (by assumption) (by assumption)]; done) | (rw [angW_g (by assumption) (by assumption) (.inl (by assumption)), angG, angY_t (by assumption)]; done) | (rw [angW_g (by assumption) (by assumption) (.inl (by assumption)), angG, angY_f (by assumption)]; done) | (rw [angW_g (by assumption) (by assumption) (.inr (by assumption)), angG, angY_t (by assumption)]; done) | (rw [angW_g (by assumption) (by assumption) (.inr (by assumption)), angG, angY_f (by assumption)]; done), rfl⟩
      ·
        refine L.gF (j := 2) (d₁ := 27) (b := fcmp .eql .f64 x 0) rfl rfl rfl q3 ?_
        refine L.gF (j := 2) (d₁ := 27) (b := fcmp .eql .f64 x 0) rfl rfl rfl q3 ?_
        refine L.v (o_pickF (b := fcmp .eql .f64 x 0) (v := (.bool false)) rfl q3 rfl) ?_
        refine L.nil ?_
        refine W.condF (b := false) rfl rfl ?_
        refine W.skip ?_
        refine W.seq ?_
        refine W.region ?_
        refine L.v (o_move (v := (.float .f64 y)) rfl) ?_
        refine L.v (v := (.float .f64 (absF y))) (op_call [(.float .f64 y)] Try.call85 rfl (absC y)) ?_
        refine L.v (o_assign (v := (.float .f64 (absF y))) rfl) ?_
        refine L.nil ?_
        refine W.seq ?_
        refine W.region ?_
        refine L.v (o_move (v := (.float .f64 x)) rfl) ?_
        refine L.v (v := (.float .f64 (absF x))) (op_call [(.float .f64 x)] Try.call85 rfl (absC x)) ?_
        refine L.v (o_assign (v := (.float .f64 (absF x))) rfl) ?_
        refine L.nil ?_
        refine W.seq ?_
        refine W.region ?_
        refine L.v (o_move (v := (.float .f64 (absF y))) rfl) ?_
        refine L.v (o_move (v := (.float .f64 (absF x))) rfl) ?_
        refine L.v (o_fcmp (k := .f64) (a := absF y) (b := absF x) rfl rfl rfl rfl) ?_
        refine L.v (o_assign (v := (.bool (fcmp .gtr .f64 (absF y) (absF x)))) rfl) ?_
        refine L.nil ?_
        refine W.seq ?_
        refine W.region ?_
        refine L.v (o_assign (v := (.float .f64 0)) rfl) ?_
        refine L.nil ?_
        refine W.seq ?_
        refine W.seq ?_
        refine W.region ?_
        refine L.v (o_move (v := (.bool (fcmp .gtr .f64 (absF y) (absF x)))) rfl) ?_
        refine L.nil ?_
        refine W.join (fun tt ss => FrOk tt [(0, (.float .f64 y)), (1, (.float .f64 x)), (5, (.float .f64 (absF y))), (6, (.float .f64 (absF x))), (7, (.bool (fcmp .gtr .f64 (absF y) (absF x)))), (8, (.float .f64 (angT (absF y) (absF x))))] ∧ ss = σ) ?_ ?_
        ·
          refine W.cond (b := fcmp .gtr .f64 (absF y) (absF x)) rfl (fun q27 => ?_) (fun q27 => ?_)
          ·
            refine W.region ?_
            refine L.v (o_move (v := (.float .f64 (absF x))) rfl) ?_
            refine L.v (o_move (v := (.float .f64 (absF y))) rfl) ?_
            refine L.v (o_farith (k := .f64) (a := absF x) (b := absF y) rfl rfl rfl) ?_
            refine L.v (o_assign (v := (.float .f64 (fop .quo .f64 (absF x) (absF y)))) rfl) ?_
            refine L.nil ?_
            exact ⟨⟨rfl, rfl, rfl, rfl, rfl, (by first | (rw [angT_t (by assumption)]; rfl) | (rw [angT_f (by assumption)]; rfl)), trivial⟩, rfl⟩
          ·
            refine W.region ?_
            refine L.v (o_move (v := (.float .f64 (absF y))) rfl) ?_
            refine L.v (o_move (v := (.float .f64 (absF x))) rfl) ?_
            refine L.v (o_farith (k := .f64) (a := absF y) (b := absF x) rfl rfl rfl) ?_
            refine L.v (o_assign (v := (.float .f64 (fop .quo .f64 (absF y) (absF x)))) rfl) ?_
            refine L.nil ?_
            exact ⟨⟨rfl, rfl, rfl, rfl, rfl, (by first | (rw [angT_t (by assumption)]; rfl) | (rw [angT_f (by assumption)]; rfl)), trivial⟩, rfl⟩
        ·
          rintro t26 s9 ⟨f25, e9⟩
          rw [e9]
          replace f25 : (upd (upd (upd (upd (upd (upd t26 0 (.float .f64 y)) 1 (.float .f64 x)) 5 (.float .f64 (absF y))) 6 (.float .f64 (absF x))) 7 (.bool (fcmp .gtr .f64 (absF y) (absF x)))) 8 (.float .f64 (angT (absF y) (absF x)))) = t26 := frame_ok f25
          rw [← f25]
          clear f25
          refine W.seq ?_
          refine W.seq ?_
          refine W.region ?_
          refine L.v (o_assign (v := (.int .i64 0)) rfl) ?_
          refine L.nil ?_
          refine W.block ?_
          refine W.loop (fun nn tt ss => ∃ (j : Nat), nn = 3 - j ∧ (j ≤ 3) ∧ FrOk tt [(0, (.float .f64 y)), (1, (.float .f64 x)), (7, (.bool (fcmp .gtr .f64 (absF y) (absF x)))), (8, (.float .f64 (angI (angT (absF y) (absF x)) j))), (9, (.int .i64 (j : Int)))] ∧ σ = ss) _ ⟨0, rfl, (by omega), ⟨rfl, rfl, rfl, rfl, rfl, trivial⟩, rfl⟩ ?_
          rintro _ t28 _ ⟨j, rfl, hj, f29, rfl⟩
          rw [← frame_ok f29]
          show W _ _ _ _ _ (upd (upd (upd (upd (upd t28 0 (.float .f64 y)) 1 (.float .f64 x)) 7 (.bool (fcmp .gtr .f64 (absF y) (absF x)))) 8 (.float .f64 (angI (angT (absF y) (absF x)) j))) 9 (.int .i64 (j : Int))) _
          refine W.seq ?_
          refine W.seq ?_
          refine W.region ?_
          refine L.v (o_move (v := (.int .i64 (j : Int))) rfl) ?_
          refine L.v (o_ilss (a := (j : Int)) (b := 3) rfl rfl rfl) ?_
          refine L.nil ?_
          refine W.cond (b := decide (((j : Int) : Int) < 3)) rfl (fun q30 => ?_) (fun q30 => ?_)
          ·
            have a31 : ((j : Int) : Int) < 3 := of_decide_eq_true q30
            refine W.skip ?_
            refine W.seq ?_
            refine W.block ?_
            refine W.region ?_
            refine L.v (o_move (v := (.float .f64 (angI (angT (absF y) (absF x)) j))) rfl) ?_
            refine L.v (o_move (v := (.float .f64 (angI (angT (absF y) (absF x)) j))) rfl) ?_
            refine L.v (o_move (v := (.float .f64 (angI (angT (absF y) (absF x)) j))) rfl) ?_
            refine L.v (o_farith (k := .f64) (a := angI (angT (absF y) (absF x)) j) (b := angI (angT (absF y) (absF x)) j) rfl rfl rfl) ?_
            refine L.v (o_farith (k := .f64) (a := 4607182418800017408) (b := fop .mul .f64 (angI (angT (absF y) (absF x)) j) (angI (angT (absF y) (absF x)) j)) rfl rfl rfl) ?_
            refine L.v (v := (.float .f64 (sqF (fop .add .f64 4607182418800017408 (fop .mul .f64 (angI (angT (absF y) (absF x)) j) (angI (angT (absF y) (absF x)) j)))))) (op_call [(.float .f64 (fop .add .f64 4607182418800017408 (fop .mul .f64 (angI (angT (absF y) (absF x)) j) (angI (angT (absF y) (absF x)) j))))] Try.call101 rfl (sqrtC (fop .add .f64 4607182418800017408 (fop .mul .f64 (angI (angT (absF y) (absF x)) j) (angI (angT (absF y) (absF x)) j))))) ?_
            refine L.v (o_farith (k := .f64) (a := 4607182418800017408) (b := sqF (fop .add .f64 4607182418800017408 (fop .mul .f64 (angI (angT (absF y) (absF x)) j) (angI (angT (absF y) (absF x)) j)))) rfl rfl rfl) ?_
            refine L.v (o_farith (k := .f64) (a := angI (angT (absF y) (absF x)) j) (b := fop .add .f64 4607182418800017408 (sqF (fop .add .f64 4607182418800017408 (fop .mul .f64 (angI (angT (absF y) (absF x)) j) (angI (angT (absF y) (absF x)) j))))) rfl rfl rfl) ?_
            refine L.v (o_assign (v := (.float .f64 (fop .quo .f64 (angI (angT (absF y) (absF x)) j) (fop .add .f64 4607182418800017408 (sqF (fop .add .f64 4607182418800017408 (fop .mul .f64 (angI (angT (absF y) (absF x)) j) (angI (angT (absF y) (absF x)) j)))))))) rfl) ?_
            refine L.nil ?_
            refine W.region ?_
            refine L.v (o_move (v := (.int .i64 (j : Int))) rfl) ?_
            refine L.v (o_iadd (a := (j : Int)) (b := 1) (c := ((j + 1 : Nat) : Int)) rfl rfl (by rw [IntWalk.i64_in _ (by omega)]; try omega)) ?_
            refine L.v (o_assign (v := (.int .i64 (((j + 1 : Nat) : Int)))) rfl) ?_
            refine L.nil ?_
            exact ⟨_, (by omega), j + 1, rfl, (by omega), ⟨rfl, rfl, rfl, rfl, rfl, trivial⟩, rfl⟩
          ·
            have a32 : ¬ (((j : Int) : Int) < 3) := of_decide_eq_false q30
            refine W.exit ?_
            refine W.seq ?_
            obtain rfl : j = 3 := by omega
            refine W.region ?_
            refine L.v (o_move (v := (.float .f64 (angI (angT (absF y) (absF x)) 3))) rfl) ?_
            refine L.v (o_move (v := (.float .f64 (angI (angT (absF y) (absF x)) 3))) rfl) ?_
            refine L.v (o_farith (k := .f64) (a := angI (angT (absF y) (absF x)) 3) (b := angI (angT (absF y) (absF x)) 3) rfl rfl rfl) ?_
            refine L.v (o_assign (v := (.float .f64 (fop .mul .f64 (angI (angT (absF y) (absF x)) 3) (angI (angT (absF y) (absF x)) 3)))) rfl) ?_
            refine L.nil ?_
            refine W.seq ?_
            refine W.region ?_
            refine L.v (o_assign (v := (.float .f64 0)) rfl) ?_
            refine L.nil ?_
            refine W.seq ?_
            refine W.seq ?_
            refine W.region ?_
            refine L.v (o_assign (v := (.int .i64 15)) rfl) ?_
            refine L.nil ?_
            refine W.block ?_
            refine W.loop (fun nn tt ss => ∃ (j : Nat), nn = 8 - j ∧ (j ≤ 8) ∧ FrOk tt [(0, (.float .f64 y)), (1, (.float .f64 x)), (7, (.bool (fcmp .gtr .f64 (absF y) (absF x)))), (8, (.float .f64 (angI (angT (absF y) (absF x)) 3))), (10, (.float .f64 (fop .mul .f64 (angI (angT (absF y) (absF x)) 3) (angI (angT (absF y) (absF x)) 3)))), (11, (.float .f64 (angP (fop .mul .f64 (angI (angT (absF y) (absF x)) 3) (angI (angT (absF y) (absF x)) 3)) j))), (12, (.int .i64 (15 - 2 * (j : Int))))] ∧ σ = ss) _ ⟨0, rfl, (by omega), ⟨rfl, rfl, rfl, rfl, rfl, rfl, (by show Value.int .i64 _ = _; congr 1), trivial⟩, rfl⟩ ?_
            rintro _ t33 _ ⟨j, rfl, hj, f34, rfl⟩
            rw [← frame_ok f34]
            show W _ _ _ _ _ (upd (upd (upd (upd (upd (upd (upd t33 0 (.float .f64 y)) 1 (.float .f64 x)) 7 (.bool (fcmp .gtr .f64 (absF y) (absF x)))) 8 (.float .f64 (angI (angT (absF y) (absF x)) 3))) 10 (.float .f64 (fop .mul .f64 (angI (angT (absF y) (absF x)) 3) (angI (angT (absF y) (absF x)) 3)))) 11 (.float .f64 (angP (fop .mul .f64 (angI (angT (absF y) (absF x)) 3) (angI (angT (absF y) (absF x)) 3)) j))) 12 (.int .i64 (15 - 2 * (j : Int)))) _
            refine W.seq ?_
            refine W.seq ?_
            refine W.region ?_
            refine L.v (o_move (v := (.int .i64 (15 - 2 * (j : Int)))) rfl) ?_
            refine L.v (o_igeq (a := 15 - 2 * (j : Int)) (b := 1) rfl rfl rfl) ?_
            refine L.nil ?_
            refine W.cond (b := decide ((1 : Int) ≤ (15 - 2 * (j : Int)))) rfl (fun q35 => ?_) (fun q35 => ?_)
            ·
              have a36 : (1 : Int) ≤ (15 - 2 * (j : Int)) := of_decide_eq_true q35
              refine W.skip ?_
              refine W.seq ?_
              refine W.block ?_
              refine W.region ?_
              refine L.v (o_move (v := (.int .i64 (15 - 2 * (j : Int)))) rfl) ?_
              refine L.v (o_cvIF (a := 15 - 2 * (j : Int)) (by rw [Try.underlying3]; rfl) Try.underlying30 rfl) ?_
              refine L.v (o_farith (k := .f64) (a := 4607182418800017408) (b := FloatKind.nearest .f64 (15 - 2 * (j : Int))) rfl rfl rfl) ?_
              refine L.v (o_move (v := (.float .f64 (fop .mul .f64 (angI (angT (absF y) (absF x)) 3) (angI (angT (absF y) (absF x)) 3)))) rfl) ?_
              refine L.v (o_move (v := (.float .f64 (angP (fop .mul .f64 (angI (angT (absF y) (absF x)) 3) (angI (angT (absF y) (absF x)) 3)) j))) rfl) ?_
              refine L.v (o_farith (k := .f64) (a := fop .mul .f64 (angI (angT (absF y) (absF x)) 3) (angI (angT (absF y) (absF x)) 3)) (b := angP (fop .mul .f64 (angI (angT (absF y) (absF x)) 3) (angI (angT (absF y) (absF x)) 3)) j) rfl rfl rfl) ?_
              refine L.v (o_farith (k := .f64) (a := fop .quo .f64 4607182418800017408 (FloatKind.nearest .f64 (15 - 2 * (j : Int)))) (b := fop .mul .f64 (fop .mul .f64 (angI (angT (absF y) (absF x)) 3) (angI (angT (absF y) (absF x)) 3)) (angP (fop .mul .f64 (angI (angT (absF y) (absF x)) 3) (angI (angT (absF y) (absF x)) 3)) j)) rfl rfl rfl) ?_
              refine L.v (o_assign (v := (.float .f64 (fop .sub .f64 (fop .quo .f64 4607182418800017408 (FloatKind.nearest .f64 (15 - 2 * (j : Int)))) (fop .mul .f64 (fop .mul .f64 (angI (angT (absF y) (absF x)) 3) (angI (angT (absF y) (absF x)) 3)) (angP (fop .mul .f64 (angI (angT (absF y) (absF x)) 3) (angI (angT (absF y) (absF x)) 3)) j))))) rfl) ?_
              refine L.nil ?_
              refine W.region ?_
              refine L.v (o_move (v := (.int .i64 (15 - 2 * (j : Int)))) rfl) ?_
              refine L.v (o_isub (a := 15 - 2 * (j : Int)) (b := 2) (c := 15 - 2 * ((j + 1 : Nat) : Int)) rfl rfl (by rw [IntWalk.i64_in _ (by omega)]; try (push_cast; omega))) ?_
              refine L.v (o_assign (v := (.int .i64 (15 - 2 * ((j + 1 : Nat) : Int)))) rfl) ?_
              refine L.nil ?_
              exact ⟨_, (by omega), j + 1, rfl, (by omega), ⟨rfl, rfl, rfl, rfl, rfl, rfl, rfl, trivial⟩, rfl⟩
            ·
              have a37 : ¬ ((1 : Int) ≤ (15 - 2 * (j : Int))) := of_decide_eq_false q35
              refine W.exit ?_
              refine W.seq ?_
              obtain rfl : j = 8 := by omega
              refine W.region ?_
              refine L.v (o_move (v := (.float .f64 (angI (angT (absF y) (absF x)) 3))) rfl) ?_
              refine L.v (o_move (v := (.float .f64 (angP (fop .mul .f64 (angI (angT (absF y) (absF x)) 3) (angI (angT (absF y) (absF x)) 3)) 8))) rfl) ?_
              refine L.v (o_farith (k := .f64) (a := angI (angT (absF y) (absF x)) 3) (b := angP (fop .mul .f64 (angI (angT (absF y) (absF x)) 3) (angI (angT (absF y) (absF x)) 3)) 8) rfl rfl rfl) ?_
              refine L.v (o_farith (k := .f64) (a := 4620693217682128896) (b := fop .mul .f64 (angI (angT (absF y) (absF x)) 3) (angP (fop .mul .f64 (angI (angT (absF y) (absF x)) 3) (angI (angT (absF y) (absF x)) 3)) 8)) rfl rfl rfl) ?_
              refine L.v (o_farith (k := .f64) (a := fop .mul .f64 4620693217682128896 (fop .mul .f64 (angI (angT (absF y) (absF x)) 3) (angP (fop .mul .f64 (angI (angT (absF y) (absF x)) 3) (angI (angT (absF y) (absF x)) 3)) 8))) (b := 4618760256179416344) rfl rfl rfl) ?_
              refine L.v (o_assign (v := (.float .f64 (fop .quo .f64 (fop .mul .f64 4620693217682128896 (fop .mul .f64 (angI (angT (absF y) (absF x)) 3) (angP (fop .mul .f64 (angI (angT (absF y) (absF x)) 3) (angI (angT (absF y) (absF x)) 3)) 8))) 4618760256179416344))) rfl) ?_
              refine L.nil ?_
              refine W.seq ?_
              refine W.seq ?_
              refine W.region ?_
              refine L.v (o_move (v := (.bool (fcmp .gtr .f64 (absF y) (absF x)))) rfl) ?_
              refine L.nil ?_
              refine W.join (fun tt ss => FrOk tt [(0, (.float .f64 y)), (1, (.float .f64 x)), (13, (.float .f64 (angO (absF y) (absF x))))] ∧ ss = σ) ?_ ?_
              ·
                refine W.cond (b := fcmp .gtr .f64 (absF y) (absF x)) rfl (fun q40 => ?_) (fun q40 => ?_)
                ·
                  refine W.region ?_
                  refine L.v (o_move (v := (.float .f64 (fop .quo .f64 (fop .mul .f64 4620693217682128896 (fop .mul .f64 (angI (angT (absF y) (absF x)) 3) (angP (fop .mul .f64 (angI (angT (absF y) (absF x)) 3) (angI (angT (absF y) (absF x)) 3)) 8))) 4618760256179416344))) rfl) ?_
                  refine L.v (o_farith (k := .f64) (a := 4598175219545276416) (b := fop .quo .f64 (fop .mul .f64 4620693217682128896 (fop .mul .f64 (angI (angT (absF y) (absF x)) 3) (angP (fop .mul .f64 (angI (angT (absF y) (absF x)) 3) (angI (angT (absF y) (absF x)) 3)) 8))) 4618760256179416344) rfl rfl rfl) ?_
                  refine L.v (o_assign (v := (.float .f64 (fop .sub .f64 4598175219545276416 (fop .quo .f64 (fop .mul .f64 4620693217682128896 (fop .mul .f64 (angI (angT (absF y) (absF x)) 3) (angP (fop .mul .f64 (angI (angT (absF y) (absF x)) 3) (angI (angT (absF y) (absF x)) 3)) 8))) 4618760256179416344)))) rfl) ?_
                  refine L.nil ?_
                  exact ⟨⟨rfl, rfl, (by first | (rw [angO_t (by assumption)]; rfl) | (rw [angO_f (by assumption)]; rfl)), trivial⟩, rfl⟩
                ·
                  refine W.skip ?_
                  exact ⟨⟨rfl, rfl, (by first | (rw [angO_t (by assumption)]; rfl) | (rw [angO_f (by assumption)]; rfl)), trivial⟩, rfl⟩
              ·
                rintro t39 s9 ⟨f38, e9⟩
                rw [e9]
                replace f38 : (upd (upd (upd t39 0 (.float .f64 y)) 1 (.float .f64 x)) 13 (.float .f64 (angO (absF y) (absF x)))) = t39 := frame_ok f38
                rw [← f38]
                clear f38
                refine W.seq ?_
                refine W.seq ?_
                refine W.region ?_
                refine L.v (o_move (v := (.float .f64 x)) rfl) ?_
                refine L.v (o_fcmp (k := .f64) (a := x) (b := 0) rfl rfl rfl rfl) ?_
                refine L.nil ?_
                refine W.join (fun tt ss => FrOk tt [(0, (.float .f64 y)), (13, (.float .f64 (angX x (angO (absF y) (absF x)))))] ∧ ss = σ) ?_ ?_
                ·
                  refine W.cond (b := fcmp .lss .f64 x 0) rfl (fun q43 => ?_) (fun q43 => ?_)
                  ·
                    refine W.region ?_
                    refine L.v (o_move (v := (.float .f64 (angO (absF y) (absF x)))) rfl) ?_
                    refine L.v (o_farith (k := .f64) (a := 4602678819172646912) (b := angO (absF y) (absF x)) rfl rfl rfl) ?_
                    refine L.v (o_assign (v := (.float .f64 (fop .sub .f64 4602678819172646912 (angO (absF y) (absF x))))) rfl) ?_
                    refine L.nil ?_
                    exact ⟨⟨rfl, (by first | (rw [angX_t (by assumption)]; rfl) | (rw [angX_f (by assumption)]; rfl)), trivial⟩, rfl⟩
                  ·
                    refine W.skip ?_
                    exact ⟨⟨rfl, (by first | (rw [angX_t (by assumption)]; rfl) | (rw [angX_f (by assumption)]; rfl)), trivial⟩, rfl⟩
                ·
                  rintro t42 s9 ⟨f41, e9⟩
                  rw [e9]
                  replace f41 : (upd (upd t42 0 (.float .f64 y)) 13 (.float .f64 (angX x (angO (absF y) (absF x))))) = t42 := frame_ok f41
                  rw [← f41]
                  clear f41
                  refine W.seq ?_
                  refine W.seq ?_
                  refine W.region ?_
                  refine L.v (o_move (v := (.float .f64 y)) rfl) ?_
                  refine L.v (o_fcmp (k := .f64) (a := y) (b := 0) rfl rfl rfl rfl) ?_
                  refine L.nil ?_
                  refine W.cond (b := fcmp .lss .f64 y 0) rfl (fun q44 => ?_) (fun q44 => ?_)
                  ·
                    refine W.seq ?_
                    refine W.region ?_
                    refine L.v (o_move (v := (.float .f64 (angX x (angO (absF y) (absF x))))) rfl) ?_
                    refine L.v (o_fneg (k := .f64) (a := angX x (angO (absF y) (absF x))) rfl) ?_
                    refine L.v (o_assign (v := (.float .f64 (Op.negFloat .f64 (angX x (angO (absF y) (absF x)))))) rfl) ?_
                    refine L.nil ?_
                    refine W.ret ?_
                    exact RetK.one σ (.float .f64 (Op.negFloat .f64 (angX x (angO (absF y) (absF x))))) rfl rfl (Ext.refl _) ⟨by first | (rw [angW_n1 (by assumption)]; done) | (rw [angW_n2 (by assumption) (by assumption)]; done) | (rw [angW_0 (by assumption) (by assumption) (by assumption) (by assumption)]; done) | (rw [angW_g (by assumption) (by assumption) (.inl (by assumption)), angG, angY_t (by assumption)]; done) | (rw [angW_g (by assumption) (by assumption) (.inl (by assumption)), angG, angY_f (by assumption)]; done) | (rw [angW_g (by assumption) (by assumption) (.inr (by assumption)), angG, angY_t (by assumption)]; done) | (rw [angW_g (by assumption) (by assumption) (.inr (by assumption)), angG, angY_f (by assumption)]; done), rfl⟩
                  ·
                    refine W.skip ?_
                    refine W.seq ?_
                    refine W.region ?_
                    refine L.v (o_move (v := (.float .f64 (angX x (angO (absF y) (absF x))))) rfl) ?_
                    refine L.v (o_assign (v := (.float .f64 (angX x (angO (absF y) (absF x))))) rfl) ?_
                    refine L.nil ?_
                    refine W.ret ?_
                    exact RetK.one σ (.float .f64 (angX x (angO (absF y) (absF x)))) rfl rfl (Ext.refl _) ⟨by first | (rw [angW_n1 (by assumption)]; done) | (rw [angW_n2 (by assumption) (by assumption)]; done) | (rw [angW_0 (by assumption) (by assumption) (by assumption) (by assumption)]; done) | (rw [angW_g (by assumption) (by assumption) (.inl (by assumption)), angG, angY_t (by assumption)]; done) | (rw [angW_g (by assumption) (by assumption) (.inl (by assumption)), angG, angY_f (by assumption)]; done) | (rw [angW_g (by assumption) (by assumption) (.inr (by assumption)), angG, angY_t (by assumption)]; done) | (rw [angW_g (by assumption) (by assumption) (.inr (by assumption)), angG, angY_f (by assumption)]; done), rfl⟩

theorem specAng {w0 : World} {σ : Sg} (y x : Nat) :
    FnV Try.prog w0 70 [(.float .f32 y), (.float .f32 x)] σ (.float .f32 (angA y x)) := by
  unfold FnV
  refine Fn.of_W 11 Try.func70 rfl Try.ntmps70 rfl ?_
  refine W.seq ?_
  refine W.region ?_
  refine L.v (o_assign (v := (.float .f32 0)) rfl) ?_
  refine L.nil ?_
  refine W.seq ?_
  refine W.region ?_
  refine L.v (o_move (v := (.float .f32 y)) rfl) ?_
  refine L.v (o_cvFF (s := .f32) (d := .f64) (a := y) (by rw [Try.underlying24]; rfl) Try.underlying30 rfl (okw y)) ?_
  refine L.v (o_move (v := (.float .f32 x)) rfl) ?_
  refine L.v (o_cvFF (s := .f32) (d := .f64) (a := x) (by rw [Try.underlying24]; rfl) Try.underlying30 rfl (okw x)) ?_
  refine L.v (v := (.float .f64 (angW (cvt .f32 .f64 y) (cvt .f32 .f64 x)))) (op_call [(.float .f64 (cvt .f32 .f64 y)), (.float .f64 (cvt .f32 .f64 x))] Try.call100 rfl (specAngW (cvt .f32 .f64 y) (cvt .f32 .f64 x))) ?_
  refine L.v (v := (.float .f32 (cvt .f64 .f32 (angW (cvt .f32 .f64 y) (cvt .f32 .f64 x))))) (op_call [(.float .f64 (angW (cvt .f32 .f64 y) (cvt .f32 .f64 x)))] Try.call80 rfl (narrowC (angW (cvt .f32 .f64 y) (cvt .f32 .f64 x)) (angW_ok _ _))) ?_
  refine L.v (o_assign (v := (.float .f32 (cvt .f64 .f32 (angW (cvt .f32 .f64 y) (cvt .f32 .f64 x))))) rfl) ?_
  refine L.nil ?_
  refine W.ret ?_
  exact RetK.one σ (.float .f32 (cvt .f64 .f32 (angW (cvt .f32 .f64 y) (cvt .f32 .f64 x)))) rfl rfl (Ext.refl _) ⟨rfl, rfl⟩

theorem specAngOf {w0 : World} {σ : Sg} (a b : Nat) :
    FnV Try.prog w0 78 [(.complex .f32 a b)] σ (.float .f32 (angA b a)) := by
  unfold FnV
  refine Fn.of_W 11 Try.func78 rfl Try.ntmps78 rfl ?_
  refine W.seq ?_
  refine W.region ?_
  refine L.v (o_assign (v := (.float .f32 0)) rfl) ?_
  refine L.nil ?_
  refine W.seq ?_
  refine W.region ?_
  refine L.v (o_move (v := (.complex .f32 a b)) rfl) ?_
  refine L.v (o_imag (k := .f32) (a := a) (b := b) rfl) ?_
  refine L.v (o_cvFF (s := .f32) (d := .f64) (a := b) (by rw [Try.underlying24]; rfl) Try.underlying30 rfl (okw b)) ?_
  refine L.v (o_move (v := (.complex .f32 a b)) rfl) ?_
  refine L.v (o_real (k := .f32) (a := a) (b := b) rfl) ?_
  refine L.v (o_cvFF (s := .f32) (d := .f64) (a := a) (by rw [Try.underlying24]; rfl) Try.underlying30 rfl (okw a)) ?_
  refine L.v (v := (.float .f64 (angW (cvt .f32 .f64 b) (cvt .f32 .f64 a)))) (op_call [(.float .f64 (cvt .f32 .f64 b)), (.float .f64 (cvt .f32 .f64 a))] Try.call100 rfl (specAngW (cvt .f32 .f64 b) (cvt .f32 .f64 a))) ?_
  refine L.v (v := (.float .f32 (cvt .f64 .f32 (angW (cvt .f32 .f64 b) (cvt .f32 .f64 a))))) (op_call [(.float .f64 (angW (cvt .f32 .f64 b) (cvt .f32 .f64 a)))] Try.call80 rfl (narrowC (angW (cvt .f32 .f64 b) (cvt .f32 .f64 a)) (angW_ok _ _))) ?_
  refine L.v (o_assign (v := (.float .f32 (cvt .f64 .f32 (angW (cvt .f32 .f64 b) (cvt .f32 .f64 a))))) rfl) ?_
  refine L.nil ?_
  refine W.ret ?_
  exact RetK.one σ (.float .f32 (cvt .f64 .f32 (angW (cvt .f32 .f64 b) (cvt .f32 .f64 a)))) rfl rfl (Ext.refl _) ⟨rfl, rfl⟩

theorem implAng {w0 : World} {σ : Sg} (y x : Nat) :
    FnV Try.prog w0 75 [(.float .f32 y), (.float .f32 x)] σ (.float .f32 (angA y x)) := by
  unfold FnV
  refine Fn.of_W 87 Try.func75 rfl Try.ntmps75 rfl ?_
  refine W.seq ?_
  refine W.region ?_
  refine L.v (o_assign (v := (.float .f32 0)) rfl) ?_
  refine L.nil ?_
  refine W.seq ?_
  refine W.block ?_
  refine W.seq ?_
  refine W.region ?_
  refine L.v (o_move (v := (.float .f32 x)) rfl) ?_
  refine L.v (o_move (v := (.float .f32 y)) rfl) ?_
  refine L.cons (o_buildSlice (info := Try.t24) (z := .float .f32 0) [(.float .f32 x), (.float .f32 y)] Try.underlying32 Try.type24 rfl rfl rfl rfl (by decide) rfl rfl (by simp [Value.oneCell'])) ?_
  rintro _ _ ⟨b1, hf2, hw3, rfl, rfl⟩
  have fz7 := Ext.none (Ext.refl _) hf2
  have hb6 : (sg σ b1 (24, [(.float .f32 x), (.float .f32 y)])) b1 = some (24, [(.float .f32 x), (.float .f32 y)]) := sg_eq _ _ _
  have hx5 : Ext σ (sg σ b1 (24, [(.float .f32 x), (.float .f32 y)])) := (Ext.refl _).sg hf2
  have ehx5 := Ext.trans (Ext.refl _) hx5
  generalize hgs4 : sg σ b1 (24, [(.float .f32 x), (.float .f32 y)]) = s4 at *
  clear hgs4
  refine L.v (v := (.bool (finB x && finB y))) (op_call [(.slice (some ⟨b1, 0, none⟩) 2 2)] Try.call54 rfl (areFin2 b1 0 x y (Sl.of (e := 24) (f := fl) (xs := [x, y]) hb6 (by simp [fl])))) ?_
  refine L.v (o_not (b := finB x && finB y) rfl rfl) ?_
  refine L.v (o_assign (v := (.bool (!(finB x && finB y)))) rfl) ?_
  refine L.nil ?_
  refine W.cond (b := !(finB x && finB y)) rfl (fun q8 => ?_) (fun q8 => ?_)
  ·
    refine W.seq ?_
    refine W.region ?_
    refine L.v (v := (.float .f64 9221120237041090561)) (op_call [] Try.call84 rfl (nanC)) ?_
    refine L.v (o_cvFF (s := .f64) (d := .f32) (a := 9221120237041090561) (by rw [Try.underlying30]; rfl) Try.underlying24 rfl (by decide +kernel)) ?_
    refine L.v (o_assign (v := (.float .f32 (cvt .f64 .f32 9221120237041090561))) rfl) ?_
    refine L.nil ?_
    refine W.ret ?_
    exact RetK.one σ (.float .f32 (cvt .f64 .f32 9221120237041090561)) rfl rfl ehx5 ⟨by rw [angA_nan (bn_t q8)], rfl⟩
  ·
    refine W.seq ?_
    have hb : (finB x && finB y) = true := (bn_f q8)
    have hfx : finB x = true := by cases h9 : finB x <;> simp_all
    have hfy : finB y = true := by cases h9 : finB y <;> simp_all
    have hlx : fcmp .lss .f64 (cvt .f32 .f64 x) 0 = fcmp .lss .f32 x 0 := cmp_w0 hfx
    have hly : fcmp .lss .f64 (cvt .f32 .f64 y) 0 = fcmp .lss .f32 y 0 := cmp_w0 hfy
    have hex : fcmp .eql .f64 (cvt .f32 .f64 x) 0 = fcmp .eql .f32 x 0 := cmp_w0 hfx
    have hey : fcmp .eql .f64 (cvt .f32 .f64 y) 0 = fcmp .eql .f32 y 0 := cmp_w0 hfy
    have hnx := neq_of_fin hfx
    have hny := neq_of_fin hfy
    refine W.region ?_
    refine L.v (o_move (v := (.float .f32 x)) rfl) ?_
    refine L.v (o_fcmp (k := .f32) (a := x) (b := 0) rfl rfl rfl rfl) ?_
    refine L.v (o_move (v := (.bool (fcmp .eql .f32 x 0))) rfl) ?_
    rcases Bool.eq_false_or_eq_true (fcmp .eql .f32 x 0) with q9 | q9
    ·
      refine L.gv (j := 2) (d₁ := 23) (b := fcmp .eql .f32 x 0) rfl rfl rfl q9 (o_move (v := (.float .f32 y)) rfl) ?_
      refine L.gv (j := 2) (d₁ := 23) (b := fcmp .eql .f32 x 0) rfl rfl rfl q9 (o_fcmp (k := .f32) (a := y) (b := 0) rfl rfl rfl rfl) ?_
      refine L.v (o_pickT (b := fcmp .eql .f32 x 0) (v := (.bool (fcmp .eql .f32 y 0))) rfl q9 rfl) ?_
      refine L.v (o_assign (v := (.bool (fcmp .eql .f32 y 0))) rfl) ?_
      refine L.nil ?_
      refine W.cond (b := fcmp .eql .f32 y 0) rfl (fun q10 => ?_) (fun q10 => ?_)
      ·
        refine W.seq ?_
        refine W.region ?_
        refine L.v (o_assign (v := (.float .f32 0)) rfl) ?_
        refine L.nil ?_
        refine W.ret ?_
        exact RetK.one σ (.float .f32 0) rfl rfl ehx5 ⟨by rw [angA, angW_0 hny hnx (by rw [hex]; assumption) (by rw [hey]; assumption), cvt_00], rfl⟩
      ·
        refine W.skip ?_
        refine W.seq ?_
        refine W.region ?_
        refine L.v (o_move (v := (.float .f32 y)) rfl) ?_
        refine L.v (o_cvFF (s := .f32) (d := .f64) (a := y) (by rw [Try.underlying24]; rfl) Try.underlying30 rfl (okw y)) ?_
        refine L.v (v := (.float .f64 (absF (cvt .f32 .f64 y)))) (op_call [(.float .f64 (cvt .f32 .f64 y))] Try.call85 rfl (absC (cvt .f32 .f64 y))) ?_
        refine L.v (o_move (v := (.float .f32 x)) rfl) ?_
        refine L.v (o_cvFF (s := .f32) (d := .f64) (a := x) (by rw [Try.underlying24]; rfl) Try.underlying30 rfl (okw x)) ?_
        refine L.v (v := (.float .f64 (absF (cvt .f32 .f64 x)))) (op_call [(.float .f64 (cvt .f32 .f64 x))] Try.call85 rfl (absC (cvt .f32 .f64 x))) ?_
        refine L.v (o_assign (v := (.float .f64 (absF (cvt .f32 .f64 y)))) rfl) ?_
        refine L.v (o_assign (v := (.float .f64 (absF (cvt .f32 .f64 x)))) rfl) ?_
        refine L.nil ?_
        refine W.seq ?_
        refine W.region ?_
        refine L.v (o_move (v := (.float .f64 (absF (cvt .f32 .f64 y)))) rfl) ?_
        refine L.v (o_move (v := (.float .f64 (absF (cvt .f32 .f64 x)))) rfl) ?_
        refine L.v (o_farith (k := .f64) (a := absF (cvt .f32 .f64 y)) (b := absF (cvt .f32 .f64 x)) rfl rfl rfl) ?_
        refine L.v (o_assign (v := (.float .f64 (fop .quo .f64 (absF (cvt .f32 .f64 y)) (absF (cvt .f32 .f64 x))))) rfl) ?_
        refine L.nil ?_
        refine W.seq ?_
        refine W.seq ?_
        refine W.region ?_
        refine L.v (o_move (v := (.float .f64 (absF (cvt .f32 .f64 y)))) rfl) ?_
        refine L.v (o_move (v := (.float .f64 (absF (cvt .f32 .f64 x)))) rfl) ?_
        refine L.v (o_fcmp (k := .f64) (a := absF (cvt .f32 .f64 y)) (b := absF (cvt .f32 .f64 x)) rfl rfl rfl rfl) ?_
        refine L.nil ?_
        refine W.join (fun tt ss => FrOk tt [(0, (.float .f32 y)), (1, (.float .f32 x)), (5, (.float .f64 (absF (cvt .f32 .f64 y)))), (6, (.float .f64 (absF (cvt .f32 .f64 x)))), (7, (.float .f64 (angT (absF (cvt .f32 .f64 y)) (absF (cvt .f32 .f64 x)))))] ∧ ss = s4) ?_ ?_
        ·
          refine W.cond (b := fcmp .gtr .f64 (absF (cvt .f32 .f64 y)) (absF (cvt .f32 .f64 x))) rfl (fun q13 => ?_) (fun q13 => ?_)
          ·
            refine W.region ?_
            refine L.v (o_move (v := (.float .f64 (absF (cvt .f32 .f64 x)))) rfl) ?_
            refine L.v (o_move (v := (.float .f64 (absF (cvt .f32 .f64 y)))) rfl) ?_
            refine L.v (o_farith (k := .f64) (a := absF (cvt .f32 .f64 x)) (b := absF (cvt .f32 .f64 y)) rfl rfl rfl) ?_
            refine L.v (o_assign (v := (.float .f64 (fop .quo .f64 (absF (cvt .f32 .f64 x)) (absF (cvt .f32 .f64 y))))) rfl) ?_
            refine L.nil ?_
            exact ⟨⟨rfl, rfl, rfl, rfl, (by first | (rw [angT_t (by assumption)]; rfl) | (rw [angT_f (by assumption)]; rfl)), trivial⟩, rfl⟩
          ·
            refine W.skip ?_
            exact ⟨⟨rfl, rfl, rfl, rfl, (by first | (rw [angT_t (by assumption)]; rfl) | (rw [angT_f (by assumption)]; rfl)), trivial⟩, rfl⟩
        ·
          rintro t12 s9 ⟨f11, e9⟩
          rw [e9]
          replace f11 : (upd (upd (upd (upd (upd t12 0 (.float .f32 y)) 1 (.float .f32 x)) 5 (.float .f64 (absF (cvt .f32 .f64 y)))) 6 (.float .f64 (absF (cvt .f32 .f64 x)))) 7 (.float .f64 (angT (absF (cvt .f32 .f64 y)) (absF (cvt .f32 .f64 x))))) = t12 := frame_ok f11
          rw [← f11]
          clear f11
          refine W.seq ?_
          refine W.seq ?_
          refine W.region ?_
          refine L.v (o_move (v := (.int .i64 0)) rfl) ?_
          refine L.nil ?_
          refine W.block ?_
          refine W.loop (fun nn tt ss => ∃ (j : Nat), nn = 3 - j ∧ (j ≤ 3) ∧ FrOk tt [(0, (.float .f32 y)), (1, (.float .f32 x)), (5, (.float .f64 (absF (cvt .f32 .f64 y)))), (6, (.float .f64 (absF (cvt .f32 .f64 x)))), (7, (.float .f64 (angI (angT (absF (cvt .f32 .f64 y)) (absF (cvt .f32 .f64 x))) j))), (42, (.int .i64 (j : Int)))] ∧ s4 = ss) _ ⟨0, rfl, (by omega), ⟨rfl, rfl, rfl, rfl, rfl, rfl, trivial⟩, rfl⟩ ?_
          rintro _ t14 _ ⟨j, rfl, hj, f15, rfl⟩
          rw [← frame_ok f15]
          show W _ _ _ _ _ (upd (upd (upd (upd (upd (upd t14 0 (.float .f32 y)) 1 (.float .f32 x)) 5 (.float .f64 (absF (cvt .f32 .f64 y)))) 6 (.float .f64 (absF (cvt .f32 .f64 x)))) 7 (.float .f64 (angI (angT (absF (cvt .f32 .f64 y)) (absF (cvt .f32 .f64 x))) j))) 42 (.int .i64 (j : Int))) _
          refine W.seq ?_
          refine W.region ?_
          refine L.v (o_ilss (a := (j : Int)) (b := 3) rfl rfl rfl) ?_
          refine L.nil ?_
          refine W.seq ?_
          refine W.cond (b := decide (((j : Int) : Int) < 3)) rfl (fun q16 => ?_) (fun q16 => ?_)
          ·
            have a17 : ((j : Int) : Int) < 3 := of_decide_eq_true q16
            refine W.skip ?_
            refine W.seq ?_
            refine W.block ?_
            refine W.region ?_
            refine L.v (o_move (v := (.float .f64 (angI (angT (absF (cvt .f32 .f64 y)) (absF (cvt .f32 .f64 x))) j))) rfl) ?_
            refine L.v (o_move (v := (.float .f64 (angI (angT (absF (cvt .f32 .f64 y)) (absF (cvt .f32 .f64 x))) j))) rfl) ?_
            refine L.v (o_move (v := (.float .f64 (angI (angT (absF (cvt .f32 .f64 y)) (absF (cvt .f32 .f64 x))) j))) rfl) ?_
            refine L.v (o_farith (k := .f64) (a := angI (angT (absF (cvt .f32 .f64 y)) (absF (cvt .f32 .f64 x))) j) (b := angI (angT (absF (cvt .f32 .f64 y)) (absF (cvt .f32 .f64 x))) j) rfl rfl rfl) ?_
            refine L.v (o_farith (k := .f64) (a := 4607182418800017408) (b := fop .mul .f64 (angI (angT (absF (cvt .f32 .f64 y)) (absF (cvt .f32 .f64 x))) j) (angI (angT (absF (cvt .f32 .f64 y)) (absF (cvt .f32 .f64 x))) j)) rfl rfl rfl) ?_
            refine L.v (v := (.float .f64 (sqF (fop .add .f64 4607182418800017408 (fop .mul .f64 (angI (angT (absF (cvt .f32 .f64 y)) (absF (cvt .f32 .f64 x))) j) (angI (angT (absF (cvt .f32 .f64 y)) (absF (cvt .f32 .f64 x))) j)))))) (op_call [(.float .f64 (fop .add .f64 4607182418800017408 (fop .mul .f64 (angI (angT (absF (cvt .f32 .f64 y)) (absF (cvt .f32 .f64 x))) j) (angI (angT (absF (cvt .f32 .f64 y)) (absF (cvt .f32 .f64 x))) j))))] Try.call101 rfl (sqrtC (fop .add .f64 4607182418800017408 (fop .mul .f64 (angI (angT (absF (cvt .f32 .f64 y)) (absF (cvt .f32 .f64 x))) j) (angI (angT (absF (cvt .f32 .f64 y)) (absF (cvt .f32 .f64 x))) j))))) ?_
            refine L.v (o_farith (k := .f64) (a := 4607182418800017408) (b := sqF (fop .add .f64 4607182418800017408 (fop .mul .f64 (angI (angT (absF (cvt .f32 .f64 y)) (absF (cvt .f32 .f64 x))) j) (angI (angT (absF (cvt .f32 .f64 y)) (absF (cvt .f32 .f64 x))) j)))) rfl rfl rfl) ?_
            refine L.v (o_farith (k := .f64) (a := angI (angT (absF (cvt .f32 .f64 y)) (absF (cvt .f32 .f64 x))) j) (b := fop .add .f64 4607182418800017408 (sqF (fop .add .f64 4607182418800017408 (fop .mul .f64 (angI (angT (absF (cvt .f32 .f64 y)) (absF (cvt .f32 .f64 x))) j) (angI (angT (absF (cvt .f32 .f64 y)) (absF (cvt .f32 .f64 x))) j))))) rfl rfl rfl) ?_
            refine L.v (o_assign (v := (.float .f64 (fop .quo .f64 (angI (angT (absF (cvt .f32 .f64 y)) (absF (cvt .f32 .f64 x))) j) (fop .add .f64 4607182418800017408 (sqF (fop .add .f64 4607182418800017408 (fop .mul .f64 (angI (angT (absF (cvt .f32 .f64 y)) (absF (cvt .f32 .f64 x))) j) (angI (angT (absF (cvt .f32 .f64 y)) (absF (cvt .f32 .f64 x))) j)))))))) rfl) ?_
            refine L.nil ?_
            refine W.region ?_
            refine L.v (o_iadd (a := (j : Int)) (b := 1) (c := ((j + 1 : Nat) : Int)) rfl rfl (by rw [IntWalk.i64_in _ (by omega)]; try omega)) ?_
            refine L.v (o_move (v := (.int .i64 (((j + 1 : Nat) : Int)))) rfl) ?_
            refine L.nil ?_
            exact ⟨_, (by omega), j + 1, rfl, (by omega), ⟨rfl, rfl, rfl, rfl, rfl, rfl, trivial⟩, rfl⟩
          ·
            have a18 : ¬ (((j : Int) : Int) < 3) := of_decide_eq_false q16
            refine W.exit ?_
            refine W.seq ?_
            obtain rfl : j = 3 := by omega
            refine W.region ?_
            refine L.v (o_move (v := (.float .f64 (angI (angT (absF (cvt .f32 .f64 y)) (absF (cvt .f32 .f64 x))) 3))) rfl) ?_
            refine L.v (o_move (v := (.float .f64 (angI (angT (absF (cvt .f32 .f64 y)) (absF (cvt .f32 .f64 x))) 3))) rfl) ?_
            refine L.v (o_farith (k := .f64) (a := angI (angT (absF (cvt .f32 .f64 y)) (absF (cvt .f32 .f64 x))) 3) (b := angI (angT (absF (cvt .f32 .f64 y)) (absF (cvt .f32 .f64 x))) 3) rfl rfl rfl) ?_
            refine L.v (o_assign (v := (.float .f64 (fop .mul .f64 (angI (angT (absF (cvt .f32 .f64 y)) (absF (cvt .f32 .f64 x))) 3) (angI (angT (absF (cvt .f32 .f64 y)) (absF (cvt .f32 .f64 x))) 3)))) rfl) ?_
            refine L.nil ?_
            refine W.seq ?_
            refine W.region ?_
            refine L.v (o_assign (v := (.float .f64 0)) rfl) ?_
            refine L.nil ?_
            refine W.seq ?_
            refine W.seq ?_
            refine W.region ?_
            refine L.v (o_assign (v := (.int .i64 15)) rfl) ?_
            refine L.nil ?_
            refine W.block ?_
            refine W.loop (fun nn tt ss => ∃ (j : Nat), nn = 8 - j ∧ (j ≤ 8) ∧ FrOk tt [(0, (.float .f32 y)), (1, (.float .f32 x)), (5, (.float .f64 (absF (cvt .f32 .f64 y)))), (6, (.float .f64 (absF (cvt .f32 .f64 x)))), (7, (.float .f64 (angI (angT (absF (cvt .f32 .f64 y)) (absF (cvt .f32 .f64 x))) 3))), (8, (.float .f64 (fop .mul .f64 (angI (angT (absF (cvt .f32 .f64 y)) (absF (cvt .f32 .f64 x))) 3) (angI (angT (absF (cvt .f32 .f64 y)) (absF (cvt .f32 .f64 x))) 3)))), (9, (.float .f64 (angP (fop .mul .f64 (angI (angT (absF (cvt .f32 .f64 y)) (absF (cvt .f32 .f64 x))) 3) (angI (angT (absF (cvt .f32 .f64 y)) (absF (cvt .f32 .f64 x))) 3)) j))), (10, (.int .i64 (15 - 2 * (j : Int))))] ∧ s4 = ss) _ ⟨0, rfl, (by omega), ⟨rfl, rfl, rfl, rfl, rfl, rfl, rfl, (by show Value.int .i64 _ = _; congr 1), trivial⟩, rfl⟩ ?_
            rintro _ t19 _ ⟨j, rfl, hj, f20, rfl⟩
            rw [← frame_ok f20]
            show W _ _ _ _ _ (upd (upd (upd (upd (upd (upd (upd (upd t19 0 (.float .f32 y)) 1 (.float .f32 x)) 5 (.float .f64 (absF (cvt .f32 .f64 y)))) 6 (.float .f64 (absF (cvt .f32 .f64 x)))) 7 (.float .f64 (angI (angT (absF (cvt .f32 .f64 y)) (absF (cvt .f32 .f64 x))) 3))) 8 (.float .f64 (fop .mul .f64 (angI (angT (absF (cvt .f32 .f64 y)) (absF (cvt .f32 .f64 x))) 3) (angI (angT (absF (cvt .f32 .f64 y)) (absF (cvt .f32 .f64 x))) 3)))) 9 (.float .f64 (angP (fop .mul .f64 (angI (angT (absF (cvt .f32 .f64 y)) (absF (cvt .f32 .f64 x))) 3) (angI (angT (absF (cvt .f32 .f64 y)) (absF (cvt .f32 .f64 x))) 3)) j))) 10 (.int .i64 (15 - 2 * (j : Int)))) _
            refine W.seq ?_
            refine W.seq ?_
            refine W.region ?_
            refine L.v (o_move (v := (.int .i64 (15 - 2 * (j : Int)))) rfl) ?_
            refine L.v (o_igeq (a := 15 - 2 * (j : Int)) (b := 1) rfl rfl rfl) ?_
            refine L.nil ?_
            refine W.cond (b := decide ((1 : Int) ≤ (15 - 2 * (j : Int)))) rfl (fun q21 => ?_) (fun q21 => ?_)
            ·
              have a22 : (1 : Int) ≤ (15 - 2 * (j : Int)) := of_decide_eq_true q21
              refine W.skip ?_
              refine W.seq ?_
              refine W.block ?_
              refine W.region ?_
              refine L.v (o_move (v := (.int .i64 (15 - 2 * (j : Int)))) rfl) ?_
              refine L.v (o_cvIF (a := 15 - 2 * (j : Int)) (by rw [Try.underlying3]; rfl) Try.underlying30 rfl) ?_
              refine L.v (o_farith (k := .f64) (a := 4607182418800017408) (b := FloatKind.nearest .f64 (15 - 2 * (j : Int))) rfl rfl rfl) ?_
              refine L.v (o_move (v := (.float .f64 (fop .mul .f64 (angI (angT (absF (cvt .f32 .f64 y)) (absF (cvt .f32 .f64 x))) 3) (angI (angT (absF (cvt .f32 .f64 y)) (absF (cvt .f32 .f64 x))) 3)))) rfl) ?_
              refine L.v (o_move (v := (.float .f64 (angP (fop .mul .f64 (angI (angT (absF (cvt .f32 .f64 y)) (absF (cvt .f32 .f64 x))) 3) (angI (angT (absF (cvt .f32 .f64 y)) (absF (cvt .f32 .f64 x))) 3)) j))) rfl) ?_
              refine L.v (o_farith (k := .f64) (a := fop .mul .f64 (angI (angT (absF (cvt .f32 .f64 y)) (absF (cvt .f32 .f64 x))) 3) (angI (angT (absF (cvt .f32 .f64 y)) (absF (cvt .f32 .f64 x))) 3)) (b := angP (fop .mul .f64 (angI (angT (absF (cvt .f32 .f64 y)) (absF (cvt .f32 .f64 x))) 3) (angI (angT (absF (cvt .f32 .f64 y)) (absF (cvt .f32 .f64 x))) 3)) j) rfl rfl rfl) ?_
              refine L.v (o_farith (k := .f64) (a := fop .quo .f64 4607182418800017408 (FloatKind.nearest .f64 (15 - 2 * (j : Int)))) (b := fop .mul .f64 (fop .mul .f64 (angI (angT (absF (cvt .f32 .f64 y)) (absF (cvt .f32 .f64 x))) 3) (angI (angT (absF (cvt .f32 .f64 y)) (absF (cvt .f32 .f64 x))) 3)) (angP (fop .mul .f64 (angI (angT (absF (cvt .f32 .f64 y)) (absF (cvt .f32 .f64 x))) 3) (angI (angT (absF (cvt .f32 .f64 y)) (absF (cvt .f32 .f64 x))) 3)) j)) rfl rfl rfl) ?_
              refine L.v (o_assign (v := (.float .f64 (fop .sub .f64 (fop .quo .f64 4607182418800017408 (FloatKind.nearest .f64 (15 - 2 * (j : Int)))) (fop .mul .f64 (fop .mul .f64 (angI (angT (absF (cvt .f32 .f64 y)) (absF (cvt .f32 .f64 x))) 3) (angI (angT (absF (cvt .f32 .f64 y)) (absF (cvt .f32 .f64 x))) 3)) (angP (fop .mul .f64 (angI (angT (absF (cvt .f32 .f64 y)) (absF (cvt .f32 .f64 x))) 3) (angI (angT (absF (cvt .f32 .f64 y)) (absF (cvt .f32 .f64 x))) 3)) j))))) rfl) ?_
              refine L.nil ?_
              refine W.region ?_
              refine L.v (o_move (v := (.int .i64 (15 - 2 * (j : Int)))) rfl) ?_
              refine L.v (o_isub (a := 15 - 2 * (j : Int)) (b := 2) (c := 15 - 2 * ((j + 1 : Nat) : Int)) rfl rfl (by rw [IntWalk.i64_in _ (by omega)]; try (push_cast; omega))) ?_
              refine L.v (o_assign (v := (.int .i64 (15 - 2 * ((j + 1 : Nat) : Int)))) rfl) ?_
              refine L.nil ?_
              exact ⟨_, (by omega), j + 1, rfl, (by omega), ⟨rfl, rfl, rfl, rfl, rfl, rfl, rfl, rfl, trivial⟩, rfl⟩
            ·
              have a23 : ¬ ((1 : Int) ≤ (15 - 2 * (j : Int))) := of_decide_eq_false q21
              refine W.exit ?_
              refine W.seq ?_
              obtain rfl : j = 8 := by omega
              refine W.region ?_
              refine L.v (o_move (v := (.float .f64 (angI (angT (absF (cvt .f32 .f64 y)) (absF (cvt .f32 .f64 x))) 3))) rfl) ?_
              refine L.v (o_move (v := (.float .f64 (angP (fop .mul .f64 (angI (angT (absF (cvt .f32 .f64 y)) (absF (cvt .f32 .f64 x))) 3) (angI (angT (absF (cvt .f32 .f64 y)) (absF (cvt .f32 .f64 x))) 3)) 8))) rfl) ?_
              refine L.v (o_farith (k := .f64) (a := angI (angT (absF (cvt .f32 .f64 y)) (absF (cvt .f32 .f64 x))) 3) (b := angP (fop .mul .f64 (angI (angT (absF (cvt .f32 .f64 y)) (absF (cvt .f32 .f64 x))) 3) (angI (angT (absF (cvt .f32 .f64 y)) (absF (cvt .f32 .f64 x))) 3)) 8) rfl rfl rfl) ?_
              refine L.v (o_farith (k := .f64) (a := 4620693217682128896) (b := fop .mul .f64 (angI (angT (absF (cvt .f32 .f64 y)) (absF (cvt .f32 .f64 x))) 3) (angP (fop .mul .f64 (angI (angT (absF (cvt .f32 .f64 y)) (absF (cvt .f32 .f64 x))) 3) (angI (angT (absF (cvt .f32 .f64 y)) (absF (cvt .f32 .f64 x))) 3)) 8)) rfl rfl rfl) ?_
              refine L.v (o_farith (k := .f64) (a := fop .mul .f64 4620693217682128896 (fop .mul .f64 (angI (angT (absF (cvt .f32 .f64 y)) (absF (cvt .f32 .f64 x))) 3) (angP (fop .mul .f64 (angI (angT (absF (cvt .f32 .f64 y)) (absF (cvt .f32 .f64 x))) 3) (angI (angT (absF (cvt .f32 .f64 y)) (absF (cvt .f32 .f64 x))) 3)) 8))) (b := 4618760256179416344) rfl rfl rfl) ?_
              refine L.v (o_assign (v := (.float .f64 (fop .quo .f64 (fop .mul .f64 4620693217682128896 (fop .mul .f64 (angI (angT (absF (cvt .f32 .f64 y)) (absF (cvt .f32 .f64 x))) 3) (angP (fop .mul .f64 (angI (angT (absF (cvt .f32 .f64 y)) (absF (cvt .f32 .f64 x))) 3) (angI (angT (absF (cvt .f32 .f64 y)) (absF (cvt .f32 .f64 x))) 3)) 8))) 4618760256179416344))) rfl) ?_
              refine L.nil ?_
              refine W.seq ?_
              refine W.seq ?_
              refine W.region ?_
              refine L.v (o_move (v := (.float .f64 (absF (cvt .f32 .f64 y)))) rfl) ?_
              refine L.v (o_move (v := (.float .f64 (absF (cvt .f32 .f64 x)))) rfl) ?_
              refine L.v (o_fcmp (k := .f64) (a := absF (cvt .f32 .f64 y)) (b := absF (cvt .f32 .f64 x)) rfl rfl rfl rfl) ?_
              refine L.nil ?_
              refine W.join (fun tt ss => FrOk tt [(0, (.float .f32 y)), (1, (.float .f32 x)), (11, (.float .f64 (angO (absF (cvt .f32 .f64 y)) (absF (cvt .f32 .f64 x)))))] ∧ ss = s4) ?_ ?_
              ·
                refine W.cond (b := fcmp .gtr .f64 (absF (cvt .f32 .f64 y)) (absF (cvt .f32 .f64 x))) rfl (fun q26 => ?_) (fun q26 => ?_)
                ·
                  refine W.region ?_
                  refine L.v (o_move (v := (.float .f64 (fop .quo .f64 (fop .mul .f64 4620693217682128896 (fop .mul .f64 (angI (angT (absF (cvt .f32 .f64 y)) (absF (cvt .f32 .f64 x))) 3) (angP (fop .mul .f64 (angI (angT (absF (cvt .f32 .f64 y)) (absF (cvt .f32 .f64 x))) 3) (angI (angT (absF (cvt .f32 .f64 y)) (absF (cvt .f32 .f64 x))) 3)) 8))) 4618760256179416344))) rfl) ?_
                  refine L.v (o_farith (k := .f64) (a := 4598175219545276416) (b := fop .quo .f64 (fop .mul .f64 4620693217682128896 (fop .mul .f64 (angI (angT (absF (cvt .f32 .f64 y)) (absF (cvt .f32 .f64 x))) 3) (angP (fop .mul .f64 (angI (angT (absF (cvt .f32 .f64 y)) (absF (cvt .f32 .f64 x))) 3) (angI (angT (absF (cvt .f32 .f64 y)) (absF (cvt .f32 .f64 x))) 3)) 8))) 4618760256179416344) rfl rfl rfl) ?_
                  refine L.v (o_assign (v := (.float .f64 (fop .sub .f64 4598175219545276416 (fop .quo .f64 (fop .mul .f64 4620693217682128896 (fop .mul .f64 (angI (angT (absF (cvt .f32 .f64 y)) (absF (cvt .f32 .f64 x))) 3) (angP (fop .mul .f64 (angI (angT (absF (cvt .f32 .f64 y)) (absF (cvt .f32 .f64 x))) 3) (angI (angT (absF (cvt .f32 .f64 y)) (absF (cvt .f32 .f64 x))) 3)) 8))) 4618760256179416344)))) rfl) ?_
                  refine L.nil ?_
                  exact ⟨⟨rfl, rfl, (by first | (rw [angO_t (by assumption)]; rfl) | (rw [angO_f (by assumption)]; rfl)), trivial⟩, rfl⟩
                ·
                  refine W.skip ?_
                  exact ⟨⟨rfl, rfl, (by first | (rw [angO_t (by assumption)]; rfl) | (rw [angO_f (by assumption)]; rfl)), trivial⟩, rfl⟩
              ·
                rintro t25 s9 ⟨f24, e9⟩
                rw [e9]
                replace f24 : (upd (upd (upd t25 0 (.float .f32 y)) 1 (.float .f32 x)) 11 (.float .f64 (angO (absF (cvt .f32 .f64 y)) (absF (cvt .f32 .f64 x))))) = t25 := frame_ok f24
                rw [← f24]
                clear f24
                refine W.seq ?_
                refine W.seq ?_
                refine W.region ?_
                refine L.v (o_move (v := (.float .f32 x)) rfl) ?_
                refine L.v (o_fcmp (k := .f32) (a := x) (b := 0) rfl rfl rfl rfl) ?_
                refine L.nil ?_
                refine W.join (fun tt ss => FrOk tt [(0, (.float .f32 y)), (11, (.float .f64 (angX (cvt .f32 .f64 x) (angO (absF (cvt .f32 .f64 y)) (absF (cvt .f32 .f64 x))))))] ∧ ss = s4) ?_ ?_
                ·
                  refine W.cond (b := fcmp .lss .f32 x 0) rfl (fun q29 => ?_) (fun q29 => ?_)
                  ·
                    refine W.region ?_
                    refine L.v (o_move (v := (.float .f64 (angO (absF (cvt .f32 .f64 y)) (absF (cvt .f32 .f64 x))))) rfl) ?_
                    refine L.v (o_farith (k := .f64) (a := 4602678819172646912) (b := angO (absF (cvt .f32 .f64 y)) (absF (cvt .f32 .f64 x))) rfl rfl rfl) ?_
                    refine L.v (o_assign (v := (.float .f64 (fop .sub .f64 4602678819172646912 (angO (absF (cvt .f32 .f64 y)) (absF (cvt .f32 .f64 x)))))) rfl) ?_
                    refine L.nil ?_
                    exact ⟨⟨rfl, (by first | (rw [angX_t (by rw [hlx]; assumption)]; rfl) | (rw [angX_f (by rw [hlx]; assumption)]; rfl)), trivial⟩, rfl⟩
                  ·
                    refine W.skip ?_
                    exact ⟨⟨rfl, (by first | (rw [angX_t (by rw [hlx]; assumption)]; rfl) | (rw [angX_f (by rw [hlx]; assumption)]; rfl)), trivial⟩, rfl⟩
                ·
                  rintro t28 s9 ⟨f27, e9⟩
                  rw [e9]
                  replace f27 : (upd (upd t28 0 (.float .f32 y)) 11 (.float .f64 (angX (cvt .f32 .f64 x) (angO (absF (cvt .f32 .f64 y)) (absF (cvt .f32 .f64 x)))))) = t28 := frame_ok f27
                  rw [← f27]
                  clear f27
                  refine W.seq ?_
                  refine W.seq ?_
                  refine W.region ?_
                  refine L.v (o_move (v := (.float .f32 y)) rfl) ?_
                  refine L.v (o_fcmp (k := .f32) (a := y) (b := 0) rfl rfl rfl rfl) ?_
                  refine L.nil ?_
                  refine W.join (fun tt ss => FrOk tt [(11, (.float .f64 (angY (cvt .f32 .f64 y) (angX (cvt .f32 .f64 x) (angO (absF (cvt .f32 .f64 y)) (absF (cvt .f32 .f64 x)))))))] ∧ ss = s4) ?_ ?_
                  ·
                    refine W.cond (b := fcmp .lss .f32 y 0) rfl (fun q32 => ?_) (fun q32 => ?_)
                    ·
                      refine W.region ?_
                      refine L.v (o_move (v := (.float .f64 (angX (cvt .f32 .f64 x) (angO (absF (cvt .f32 .f64 y)) (absF (cvt .f32 .f64 x)))))) rfl) ?_
                      refine L.v (o_fneg (k := .f64) (a := angX (cvt .f32 .f64 x) (angO (absF (cvt .f32 .f64 y)) (absF (cvt .f32 .f64 x)))) rfl) ?_
                      refine L.v (o_assign (v := (.float .f64 (Op.negFloat .f64 (angX (cvt .f32 .f64 x) (angO (absF (cvt .f32 .f64 y)) (absF (cvt .f32 .f64 x))))))) rfl) ?_
                      refine L.nil ?_
                      exact ⟨⟨(by first | (rw [angY_t (by rw [hly]; assumption)]; rfl) | (rw [angY_f (by rw [hly]; assumption)]; rfl)), trivial⟩, rfl⟩
                    ·
                      refine W.skip ?_
                      exact ⟨⟨(by first | (rw [angY_t (by rw [hly]; assumption)]; rfl) | (rw [angY_f (by rw [hly]; assumption)]; rfl)), trivial⟩, rfl⟩
                  ·
                    rintro t31 s9 ⟨f30, e9⟩
                    rw [e9]
                    replace f30 : (upd t31 11 (.float .f64 (angY (cvt .f32 .f64 y) (angX (cvt .f32 .f64 x) (angO (absF (cvt .f32 .f64 y)) (absF (cvt .f32 .f64 x))))))) = t31 := frame_ok f30
                    rw [← f30]
                    clear f30
                    refine W.seq ?_
                    refine W.region ?_
                    refine L.v (o_move (v := (.float .f64 (angY (cvt .f32 .f64 y) (angX (cvt .f32 .f64 x) (angO (absF (cvt .f32 .f64 y)) (absF (cvt .f32 .f64 x))))))) rfl) ?_
                    refine L.v (o_cvFF (s := .f64) (d := .f32) (a := angY (cvt .f32 .f64 y) (angX (cvt .f32 .f64 x) (angO (absF (cvt .f32 .f64 y)) (absF (cvt .f32 .f64 x))))) (by rw [Try.underlying30]; rfl) Try.underlying24 rfl (by first | exact angG_ok2 hny hnx (.inl (by rw [hex]; assumption)) | exact angG_ok2 hny hnx (.inr (by rw [hey]; assumption)))) ?_
                    refine L.v (o_assign (v := (.float .f32 (cvt .f64 .f32 (angY (cvt .f32 .f64 y) (angX (cvt .f32 .f64 x) (angO (absF (cvt .f32 .f64 y)) (absF (cvt .f32 .f64 x)))))))) rfl) ?_
                    refine L.nil ?_
                    refine W.ret ?_
                    exact RetK.one σ (.float .f32 (cvt .f64 .f32 (angY (cvt .f32 .f64 y) (angX (cvt .f32 .f64 x) (angO (absF (cvt .f32 .f64 y)) (absF (cvt .f32 .f64 x))))))) rfl rfl ehx5 ⟨by first | (rw [angA, angW_g hny hnx (.inl (by rw [hex]; assumption)), angG]; done) | (rw [angA, angW_g hny hnx (.inr (by rw [hey]; assumption)), angG]; done), rfl⟩
    ·
      refine L.gF (j := 2) (d₁ := 23) (b := fcmp .eql .f32 x 0) rfl rfl rfl q9 ?_
      refine L.gF (j := 2) (d₁ := 23) (b := fcmp .eql .f32 x 0) rfl rfl rfl q9 ?_
      refine L.v (o_pickF (b := fcmp .eql .f32 x 0) (v := (.bool false)) rfl q9 rfl) ?_
      refine L.v (o_assign (v := (.bool false)) rfl) ?_
      refine L.nil ?_
      refine W.condF (b := false) rfl rfl ?_
      refine W.skip ?_
      refine W.seq ?_
      refine W.region ?_
      refine L.v (o_move (v := (.float .f32 y)) rfl) ?_
      refine L.v (o_cvFF (s := .f32) (d := .f64) (a := y) (by rw [Try.underlying24]; rfl) Try.underlying30 rfl (okw y)) ?_
      refine L.v (v := (.float .f64 (absF (cvt .f32 .f64 y)))) (op_call [(.float .f64 (cvt .f32 .f64 y))] Try.call85 rfl (absC (cvt .f32 .f64 y))) ?_
      refine L.v (o_move (v := (.float .f32 x)) rfl) ?_
      refine L.v (o_cvFF (s := .f32) (d := .f64) (a := x) (by rw [Try.underlying24]; rfl) Try.underlying30 rfl (okw x)) ?_
      refine L.v (v := (.float .f64 (absF (cvt .f32 .f64 x)))) (op_call [(.float .f64 (cvt .f32 .f64 x))] Try.call85 rfl (absC (cvt .f32 .f64 x))) ?_
      refine L.v (o_assign (v := (.float .f64 (absF (cvt .f32 .f64 y)))) rfl) ?_
      refine L.v (o_assign (v := (.float .f64 (absF (cvt .f32 .f64 x)))) rfl) ?_
      refine L.nil ?_
      refine W.seq ?_
      refine W.region ?_
      refine L.v (o_move (v := (.float .f64 (absF (cvt .f32 .f64 y)))) rfl) ?_
      refine L.v (o_move (v := (.float .f64 (absF (cvt .f32 .f64 x)))) rfl) ?_
      refine L.v (o_farith (k := .f64) (a := absF (cvt .f32 .f64 y)) (b := absF (cvt .f32 .f64 x)) rfl rfl rfl) ?_
      refine L.v (o_assign (v := (.float .f64 (fop .quo .f64 (absF (cvt .f32 .f64 y)) (absF (cvt .f32 .f64 x))))) rfl) ?_
      refine L.nil ?_
      refine W.seq ?_
      refine W.seq ?_
      refine W.region ?_
      refine L.v (o_move (v := (.float .f64 (absF (cvt .f32 .f64 y)))) rfl) ?_
      refine L.v (o_move (v := (.float .f64 (absF (cvt .f32 .f64 x)))) rfl) ?_
      refine L.v (o_fcmp (k := .f64) (a := absF (cvt .f32 .f64 y)) (b := absF (cvt .f32 .f64 x)) rfl rfl rfl rfl) ?_
      refine L.nil ?_
      refine W.join (fun tt ss => FrOk tt [(0, (.float .f32 y)), (1, (.float .f32 x)), (5, (.float .f64 (absF (cvt .f32 .f64 y)))), (6, (.float .f64 (absF (cvt .f32 .f64 x)))), (7, (.float .f64 (angT (absF (cvt .f32 .f64 y)) (absF (cvt .f32 .f64 x)))))] ∧ ss = s4) ?_ ?_
      ·
        refine W.cond (b := fcmp .gtr .f64 (absF (cvt .f32 .f64 y)) (absF (cvt .f32 .f64 x))) rfl (fun q35 => ?_) (fun q35 => ?_)
        ·
          refine W.region ?_
          refine L.v (o_move (v := (.float .f64 (absF (cvt .f32 .f64 x)))) rfl) ?_
          refine L.v (o_move (v := (.float .f64 (absF (cvt .f32 .f64 y)))) rfl) ?_
          refine L.v (o_farith (k := .f64) (a := absF (cvt .f32 .f64 x)) (b := absF (cvt .f32 .f64 y)) rfl rfl rfl) ?_
          refine L.v (o_assign (v := (.float .f64 (fop .quo .f64 (absF (cvt .f32 .f64 x)) (absF (cvt .f32 .f64 y))))) rfl) ?_
          refine L.nil ?_
          exact ⟨⟨rfl, rfl, rfl, rfl, (by first | (rw [angT_t (by assumption)]; rfl) | (rw [angT_f (by assumption)]; rfl)), trivial⟩, rfl⟩
        ·
          refine W.skip ?_
          exact ⟨⟨rfl, rfl, rfl, rfl, (by first | (rw [angT_t (by assumption)]; rfl) | (rw [angT_f (by assumption)]; rfl)), trivial⟩, rfl⟩
      ·
        rintro t34 s9 ⟨f33, e9⟩
        rw [e9]
        replace f33 : (upd (upd (upd (upd (upd t34 0 (.float .f32 y)) 1 (.float .f32 x)) 5 (.float .f64 (absF (cvt .f32 .f64 y)))) 6 (.float .f64 (absF (cvt .f32 .f64 x)))) 7 (.float .f64 (angT (absF (cvt .f32 .f64 y)) (absF (cvt .f32 .f64 x))))) = t34 := frame_ok f33
        rw [← f33]
        clear f33
        refine W.seq ?_
        refine W.seq ?_
        refine W.region ?_
        refine L.v (o_move (v := (.int .i64 0)) rfl) ?_
        refine L.nil ?_
        refine W.block ?_
        refine W.loop (fun nn tt ss => ∃ (j : Nat), nn = 3 - j ∧ (j ≤ 3) ∧ FrOk tt [(0, (.float .f32 y)), (1, (.float .f32 x)), (5, (.float .f64 (absF (cvt .f32 .f64 y)))), (6, (.float .f64 (absF (cvt .f32 .f64 x)))), (7, (.float .f64 (angI (angT (absF (cvt .f32 .f64 y)) (absF (cvt .f32 .f64 x))) j))), (42, (.int .i64 (j : Int)))] ∧ s4 = ss) _ ⟨0, rfl, (by omega), ⟨rfl, rfl, rfl, rfl, rfl, rfl, trivial⟩, rfl⟩ ?_
        rintro _ t36 _ ⟨j, rfl, hj, f37, rfl⟩
        rw [← frame_ok f37]
        show W _ _ _ _ _ (upd (upd (upd (upd (upd (upd t36 0 (.float .f32 y)) 1 (.float .f32 x)) 5 (.float .f64 (absF (cvt .f32 .f64 y)))) 6 (.float .f64 (absF (cvt .f32 .f64 x)))) 7 (.float .f64 (angI (angT (absF (cvt .f32 .f64 y)) (absF (cvt .f32 .f64 x))) j))) 42 (.int .i64 (j : Int))) _
        refine W.seq ?_
        refine W.region ?_
        refine L.v (o_ilss (a := (j : Int)) (b := 3) rfl rfl rfl) ?_
        refine L.nil ?_
        refine W.seq ?_
        refine W.cond (b := decide (((j : Int) : Int) < 3)) rfl (fun q38 => ?_) (fun q38 => ?_)
        ·
          have a39 : ((j : Int) : Int) < 3 := of_decide_eq_true q38
          refine W.skip ?_
          refine W.seq ?_
          refine W.block ?_
          refine W.region ?_
          refine L.v (o_move (v := (.float .f64 (angI (angT (absF (cvt .f32 .f64 y)) (absF (cvt .f32 .f64 x))) j))) rfl) ?_
          refine L.v (o_move (v := (.float .f64 (angI (angT (absF (cvt .f32 .f64 y)) (absF (cvt .f32 .f64 x))) j))) rfl) ?_
          refine L.v (o_move (v := (.float .f64 (angI (angT (absF (cvt .f32 .f64 y)) (absF (cvt .f32 .f64 x))) j))) rfl) ?_
          refine L.v (o_farith (k := .f64) (a := angI (angT (absF (cvt .f32 .f64 y)) (absF (cvt .f32 .f64 x))) j) (b := angI (angT (absF (cvt .f32 .f64 y)) (absF (cvt .f32 .f64 x))) j) rfl rfl rfl) ?_
          refine L.v (o_farith (k := .f64) (a := 4607182418800017408) (b := fop .mul .f64 (angI (angT (absF (cvt .f32 .f64 y)) (absF (cvt .f32 .f64 x))) j) (angI (angT (absF (cvt .f32 .f64 y)) (absF (cvt .f32 .f64 x))) j)) rfl rfl rfl) ?_
          refine L.v (v := (.float .f64 (sqF (fop .add .f64 4607182418800017408 (fop .mul .f64 (angI (angT (absF (cvt .f32 .f64 y)) (absF (cvt .f32 .f64 x))) j) (angI (angT (absF (cvt .f32 .f64 y)) (absF (cvt .f32 .f64 x))) j)))))) (op_call [(.float .f64 (fop .add .f64 4607182418800017408 (fop .mul .f64 (angI (angT (absF (cvt .f32 .f64 y)) (absF (cvt .f32 .f64 x))) j) (angI (angT (absF (cvt .f32 .f64 y)) (absF (cvt .f32 .f64 x))) j))))] Try.call101 rfl (sqrtC (fop .add .f64 4607182418800017408 (fop .mul .f64 (angI (angT (absF (cvt .f32 .f64 y)) (absF (cvt .f32 .f64 x))) j) (angI (angT (absF (cvt .f32 .f64 y)) (absF (cvt .f32 .f64 x))) j))))) ?_
          refine L.v (o_farith (k := .f64) (a := 4607182418800017408) (b := sqF (fop .add .f64 4607182418800017408 (fop .mul .f64 (angI (angT (absF (cvt .f32 .f64 y)) (absF (cvt .f32 .f64 x))) j) (angI (angT (absF (cvt .f32 .f64 y)) (absF (cvt .f32 .f64 x))) j)))) rfl rfl rfl) ?_
          refine L.v (o_farith (k := .f64) (a := angI (angT (absF (cvt .f32 .f64 y)) (absF (cvt .f32 .f64 x))) j) (b := fop .add .f64 4607182418800017408 (sqF (fop .add .f64 4607182418800017408 (fop .mul .f64 (angI (angT (absF (cvt .f32 .f64 y)) (absF (cvt .f32 .f64 x))) j) (angI (angT (absF (cvt .f32 .f64 y)) (absF (cvt .f32 .f64 x))) j))))) rfl rfl rfl) ?_
          refine L.v (o_assign (v := (.float .f64 (fop .quo .f64 (angI (angT (absF (cvt .f32 .f64 y)) (absF (cvt .f32 .f64 x))) j) (fop .add .f64 4607182418800017408 (sqF (fop .add .f64 4607182418800017408 (fop .mul .f64 (angI (angT (absF (cvt .f32 .f64 y)) (absF (cvt .f32 .f64 x))) j) (angI (angT (absF (cvt .f32 .f64 y)) (absF (cvt .f32 .f64 x))) j)))))))) rfl) ?_
          refine L.nil ?_
          refine W.region ?_
          refine L.v (o_iadd (a := (j : Int)) (b := 1) (c := ((j + 1 : Nat) : Int)) rfl rfl (by rw [IntWalk.i64_in _ (by omega)]; try omega)) ?_
          refine L.v (o_move (v := (.int .i64 (((j + 1 : Nat) : Int)))) rfl) ?_
          refine L.nil ?_
          exact ⟨_, (by omega), j + 1, rfl, (by omega), ⟨rfl, rfl, rfl, rfl, rfl, rfl, trivial⟩, rfl⟩
        ·
          have a40 : ¬ (((j : Int) : Int) < 3) := of_decide_eq_false q38
          refine W.exit ?_
          refine W.seq ?_
          obtain rfl : j = 3 := by omega
          refine W.region ?_
          refine L.v (o_move (v := (.float .f64 (angI (angT (absF (cvt .f32 .f64 y)) (absF (cvt .f32 .f64 x))) 3))) rfl) ?_
          refine L.v (o_move (v := (.float .f64 (angI (angT (absF (cvt .f32 .f64 y)) (absF (cvt .f32 .f64 x))) 3))) rfl) ?_
          refine L.v (o_farith (k := .f64) (a := angI (angT (absF (cvt .f32 .f64 y)) (absF (cvt .f32 .f64 x))) 3) (b := angI (angT (absF (cvt .f32 .f64 y)) (absF (cvt .f32 .f64 x))) 3) rfl rfl rfl) ?_
          refine L.v (o_assign (v := (.float .f64 (fop .mul .f64 (angI (angT (absF (cvt .f32 .f64 y)) (absF (cvt .f32 .f64 x))) 3) (angI (angT (absF (cvt .f32 .f64 y)) (absF (cvt .f32 .f64 x))) 3)))) rfl) ?_
          refine L.nil ?_
          refine W.seq ?_
          refine W.region ?_
          refine L.v (o_assign (v := (.float .f64 0)) rfl) ?_
          refine L.nil ?_
          refine W.seq ?_
          refine W.seq ?_
          refine W.region ?_
          refine L.v (o_assign (v := (.int .i64 15)) rfl) ?_
          refine L.nil ?_
          refine W.block ?_
          refine W.loop (fun nn tt ss => ∃ (j : Nat), nn = 8 - j ∧ (j ≤ 8) ∧ FrOk tt [(0, (.float .f32 y)), (1, (.float .f32 x)), (5, (.float .f64 (absF (cvt .f32 .f64 y)))), (6, (.float .f64 (absF (cvt .f32 .f64 x)))), (7, (.float .f64 (angI (angT (absF (cvt .f32 .f64 y)) (absF (cvt .f32 .f64 x))) 3))), (8, (.float .f64 (fop .mul .f64 (angI (angT (absF (cvt .f32 .f64 y)) (absF (cvt .f32 .f64 x))) 3) (angI (angT (absF (cvt .f32 .f64 y)) (absF (cvt .f32 .f64 x))) 3)))), (9, (.float .f64 (angP (fop .mul .f64 (angI (angT (absF (cvt .f32 .f64 y)) (absF (cvt .f32 .f64 x))) 3) (angI (angT (absF (cvt .f32 .f64 y)) (absF (cvt .f32 .f64 x))) 3)) j))), (10, (.int .i64 (15 - 2 * (j : Int))))] ∧ s4 = ss) _ ⟨0, rfl, (by omega), ⟨rfl, rfl, rfl, rfl, rfl, rfl, rfl, (by show Value.int .i64 _ = _; congr 1), trivial⟩, rfl⟩ ?_
          rintro _ t41 _ ⟨j, rfl, hj, f42, rfl⟩
          rw [← frame_ok f42]
          show W _ _ _ _ _ (upd (upd (upd (upd (upd (upd (upd (upd t41 0 (.float .f32 y)) 1 (.float .f32 x)) 5 (.float .f64 (absF (cvt .f32 .f64 y)))) 6 (.float .f64 (absF (cvt .f32 .f64 x)))) 7 (.float .f64 (angI (angT (absF (cvt .f32 .f64 y)) (absF (cvt .f32 .f64 x))) 3))) 8 (.float .f64 (fop .mul .f64 (angI (angT (absF (cvt .f32 .f64 y)) (absF (cvt .f32 .f64 x))) 3) (angI (angT (absF (cvt .f32 .f64 y)) (absF (cvt .f32 .f64 x))) 3)))) 9 (.float .f64 (angP (fop .mul .f64 (angI (angT (absF (cvt .f32 .f64 y)) (absF (cvt .f32 .f64 x))) 3) (angI (angT (absF (cvt .f32 .f64 y)) (absF (cvt .f32 .f64 x))) 3)) j))) 10 (.int .i64 (15 - 2 * (j : Int)))) _
          refine W.seq ?_
          refine W.seq ?_
          refine W.region ?_
          refine L.v (o_move (v := (.int .i64 (15 - 2 * (j : Int)))) rfl) ?_
          refine L.v (o_igeq (a := 15 - 2 * (j : Int)) (b := 1) rfl rfl rfl) ?_
          refine L.nil ?_
          refine W.cond (b := decide ((1 : Int) ≤ (15 - 2 * (j : Int)))) rfl (fun q43 => ?_) (fun q43 => ?_)
          ·
            have a44 : (1 : Int) ≤ (15 - 2 * (j : Int)) := of_decide_eq_true q43
            refine W.skip ?_
            refine W.seq ?_
            refine W.block ?_
            refine W.region ?_
            refine L.v (o_move (v := (.int .i64 (15 - 2 * (j : Int)))) rfl) ?_
            refine L.v (o_cvIF (a := 15 - 2 * (j : Int)) (by rw [Try.underlying3]; rfl) Try.underlying30 rfl) ?_
            refine L.v (o_farith (k := .f64) (a := 4607182418800017408) (b := FloatKind.nearest .f64 (15 - 2 * (j : Int))) rfl rfl rfl) ?_
            refine L.v (o_move (v := (.float .f64 (fop .mul .f64 (angI (angT (absF (cvt .f32 .f64 y)) (absF (cvt .f32 .f64 x))) 3) (angI (angT (absF (cvt .f32 .f64 y)) (absF (cvt .f32 .f64 x))) 3)))) rfl) ?_
            refine L.v (o_move (v := (.float .f64 (angP (fop .mul .f64 (angI (angT (absF (cvt .f32 .f64 y)) (absF (cvt .f32 .f64 x))) 3) (angI (angT (absF (cvt .f32 .f64 y)) (absF (cvt .f32 .f64 x))) 3)) j))) rfl) ?_
            refine L.v (o_farith (k := .f64) (a := fop .mul .f64 (angI (angT (absF (cvt .f32 .f64 y)) (absF (cvt .f32 .f64 x))) 3) (angI (angT (absF (cvt .f32 .f64 y)) (absF (cvt .f32 .f64 x))) 3)) (b := angP (fop .mul .f64 (angI (angT (absF (cvt .f32 .f64 y)) (absF (cvt .f32 .f64 x))) 3) (angI (angT (absF (cvt .f32 .f64 y)) (absF (cvt .f32 .f64 x))) 3)) j) rfl rfl rfl) ?_
            refine L.v (o_farith (k := .f64) (a := fop .quo .f64 4607182418800017408 (FloatKind.nearest .f64 (15 - 2 * (j : Int)))) (b := fop .mul .f64 (fop .mul .f64 (angI (angT (absF (cvt .f32 .f64 y)) (absF (cvt .f32 .f64 x))) 3) (angI (angT (absF (cvt .f32 .f64 y)) (absF (cvt .f32 .f64 x))) 3)) (angP (fop .mul .f64 (angI (angT (absF (cvt .f32 .f64 y)) (absF (cvt .f32 .f64 x))) 3) (angI (angT (absF (cvt .f32 .f64 y)) (absF (cvt .f32 .f64 x))) 3)) j)) rfl rfl rfl) ?_
            refine L.v (o_assign (v := (.float .f64 (fop .sub .f64 (fop .quo .f64 4607182418800017408 (FloatKind.nearest .f64 (15 - 2 * (j : Int)))) (fop .mul .f64 (fop .mul .f64 (angI (angT (absF (cvt .f32 .f64 y)) (absF (cvt .f32 .f64 x))) 3) (angI (angT (absF (cvt .f32 .f64 y)) (absF (cvt .f32 .f64 x))) 3)) (angP (fop .mul .f64 (angI (angT (absF (cvt .f32 .f64 y)) (absF (cvt .f32 .f64 x))) 3) (angI (angT (absF (cvt .f32 .f64 y)) (absF (cvt .f32 .f64 x))) 3)) j))))) rfl) ?_
            refine L.nil ?_
            refine W.region ?_
            refine L.v (o_move (v := (.int .i64 (15 - 2 * (j : Int)))) rfl) ?_
            refine L.v (o_isub (a := 15 - 2 * (j : Int)) (b := 2) (c := 15 - 2 * ((j + 1 : Nat) : Int)) rfl rfl (by rw [IntWalk.i64_in _ (by omega)]; try (push_cast; omega))) ?_
            refine L.v (o_assign (v := (.int .i64 (15 - 2 * ((j + 1 : Nat) : Int)))) rfl) ?_
            refine L.nil ?_
            exact ⟨_, (by omega), j + 1, rfl, (by omega), ⟨rfl, rfl, rfl, rfl, rfl, rfl, rfl, rfl, trivial⟩, rfl⟩
          ·
            have a45 : ¬ ((1 : Int) ≤ (15 - 2 * (j : Int))) := of_decide_eq_false q43
            refine W.exit ?_
            refine W.seq ?_
            obtain rfl : j = 8 := by omega
            refine W.region ?_
            refine L.v (o_move (v := (.float .f64 (angI (angT (absF (cvt .f32 .f64 y)) (absF (cvt .f32 .f64 x))) 3))) rfl) ?_
            refine L.v (o_move (v := (.float .f64 (angP (fop .mul .f64 (angI (angT (absF (cvt .f32 .f64 y)) (absF (cvt .f32 .f64 x))) 3) (angI (angT (absF (cvt .f32 .f64 y)) (absF (cvt .f32 .f64 x))) 3)) 8))) rfl) ?_
            refine L.v (o_farith (k := .f64) (a := angI (angT (absF (cvt .f32 .f64 y)) (absF (cvt .f32 .f64 x))) 3) (b := angP (fop .mul .f64 (angI (angT (absF (cvt .f32 .f64 y)) (absF (cvt .f32 .f64 x))) 3) (angI (angT (absF (cvt .f32 .f64 y)) (absF (cvt .f32 .f64 x))) 3)) 8) rfl rfl rfl) ?_
            refine L.v (o_farith (k := .f64) (a := 4620693217682128896) (b := fop .mul .f64 (angI (angT (absF (cvt .f32 .f64 y)) (absF (cvt .f32 .f64 x))) 3) (angP (fop .mul .f64 (angI (angT (absF (cvt .f32 .f64 y)) (absF (cvt .f32 .f64 x))) 3) (angI (angT (absF (cvt .f32 .f64 y)) (absF (cvt .f32 .f64 x))) 3)) 8)) rfl rfl rfl) ?_
            refine L.v (o_farith (k := .f64) (a := fop .mul .f64 4620693217682128896 (fop .mul .f64 (angI (angT (absF (cvt .f32 .f64 y)) (absF (cvt .f32 .f64 x))) 3) (angP (fop .mul .f64 (angI (angT (absF (cvt .f32 .f64 y)) (absF (cvt .f32 .f64 x))) 3) (angI (angT (absF (cvt .f32 .f64 y)) (absF (cvt .f32 .f64 x))) 3)) 8))) (b := 4618760256179416344) rfl rfl rfl) ?_
            refine L.v (o_assign (v := (.float .f64 (fop .quo .f64 (fop .mul .f64 4620693217682128896 (fop .mul .f64 (angI (angT (absF (cvt .f32 .f64 y)) (absF (cvt .f32 .f64 x))) 3) (angP (fop .mul .f64 (angI (angT (absF (cvt .f32 .f64 y)) (absF (cvt .f32 .f64 x))) 3) (angI (angT (absF (cvt .f32 .f64 y)) (absF (cvt .f32 .f64 x))) 3)) 8))) 4618760256179416344))) rfl) ?_
            refine L.nil ?_
            refine W.seq ?_
            refine W.seq ?_
            refine W.region ?_
            refine L.v (o_move (v := (.float .f64 (absF (cvt .f32 .f64 y)))) rfl) ?_
            refine L.v (o_move (v := (.float .f64 (absF (cvt .f32 .f64 x)))) rfl) ?_
            refine L.v (o_fcmp (k := .f64) (a := absF (cvt .f32 .f64 y)) (b := absF (cvt .f32 .f64 x)) rfl rfl rfl rfl) ?_
            refine L.nil ?_
            refine W.join (fun tt ss => FrOk tt [(0, (.float .f32 y)), (1, (.float .f32 x)), (11, (.float .f64 (angO (absF (cvt .f32 .f64 y)) (absF (cvt .f32 .f64 x)))))] ∧ ss = s4) ?_ ?_
            ·
              refine W.cond (b := fcmp .gtr .f64 (absF (cvt .f32 .f64 y)) (absF (cvt .f32 .f64 x))) rfl (fun q48 => ?_) (fun q48 => ?_)
              ·
                refine W.region ?_
                refine L.v (o_move (v := (.float .f64 (fop .quo .f64 (fop .mul .f64 4620693217682128896 (fop .mul .f64 (angI (angT (absF (cvt .f32 .f64 y)) (absF (cvt .f32 .f64 x))) 3) (angP (fop .mul .f64 (angI (angT (absF (cvt .f32 .f64 y)) (absF (cvt .f32 .f64 x))) 3) (angI (angT (absF (cvt .f32 .f64 y)) (absF (cvt .f32 .f64 x))) 3)) 8))) 4618760256179416344))) rfl) ?_
                refine L.v (o_farith (k := .f64) (a := 4598175219545276416) (b := fop .quo .f64 (fop .mul .f64 4620693217682128896 (fop .mul .f64 (angI (angT (absF (cvt .f32 .f64 y)) (absF (cvt .f32 .f64 x))) 3) (angP (fop .mul .f64 (angI (angT (absF (cvt .f32 .f64 y)) (absF (cvt .f32 .f64 x))) 3) (angI (angT (absF (cvt .f32 .f64 y)) (absF (cvt .f32 .f64 x))) 3)) 8))) 4618760256179416344) rfl rfl rfl) ?_
                refine L.v (o_assign (v := (.float .f64 (fop .sub .f64 4598175219545276416 (fop .quo .f64 (fop .mul .f64 4620693217682128896 (fop .mul .f64 (angI (angT (absF (cvt .f32 .f64 y)) (absF (cvt .f32 .f64 x))) 3) (angP (fop .mul .f64 (angI (angT (absF (cvt .f32 .f64 y)) (absF (cvt .f32 .f64 x))) 3) (angI (angT (absF (cvt .f32 .f64 y)) (absF (cvt .f32 .f64 x))) 3)) 8))) 4618760256179416344)))) rfl) ?_
                refine L.nil ?_
                exact ⟨⟨rfl, rfl, (by first | (rw [angO_t (by assumption)]; rfl) | (rw [angO_f (by assumption)]; rfl)), trivial⟩, rfl⟩
              ·
                refine W.skip ?_
                exact ⟨⟨rfl, rfl, (by first | (rw [angO_t (by assumption)]; rfl) | (rw [angO_f (by assumption)]; rfl)), trivial⟩, rfl⟩
            ·
              rintro t47 s9 ⟨f46, e9⟩
              rw [e9]
              replace f46 : (upd (upd (upd t47 0 (.float .f32 y)) 1 (.float .f32 x)) 11 (.float .f64 (angO (absF (cvt .f32 .f64 y)) (absF (cvt .f32 .f64 x))))) = t47 := frame_ok f46
              rw [← f46]
              clear f46
              refine W.seq ?_
              refine W.seq ?_
              refine W.region ?_
              refine L.v (o_move (v := (.float .f32 x)) rfl) ?_
              refine L.v (o_fcmp (k := .f32) (a := x) (b := 0) rfl rfl rfl rfl) ?_
              refine L.nil ?_
              refine W.join (fun tt ss => FrOk tt [(0, (.float .f32 y)), (11, (.float .f64 (angX (cvt .f32 .f64 x) (angO (absF (cvt .f32 .f64 y)) (absF (cvt .f32 .f64 x))))))] ∧ ss = s4) ?_ ?_
              ·
                refine W.cond (b := fcmp .lss .f32 x 0) rfl (fun q51 => ?_) (fun q51 => ?_)
                ·
                  refine W.region ?_
                  refine L.v (o_move (v := (.float .f64 (angO (absF (cvt .f32 .f64 y)) (absF (cvt .f32 .f64 x))))) rfl) ?_
                  refine L.v (o_farith (k := .f64) (a := 4602678819172646912) (b := angO (absF (cvt .f32 .f64 y)) (absF (cvt .f32 .f64 x))) rfl rfl rfl) ?_
                  refine L.v (o_assign (v := (.float .f64 (fop .sub .f64 4602678819172646912 (angO (absF (cvt .f32 .f64 y)) (absF (cvt .f32 .f64 x)))))) rfl) ?_
                  refine L.nil ?_
                  exact ⟨⟨rfl, (by first | (rw [angX_t (by rw [hlx]; assumption)]; rfl) | (rw [angX_f (by rw [hlx]; assumption)]; rfl)), trivial⟩, rfl⟩
                ·
                  refine W.skip ?_
                  exact ⟨⟨rfl, (by first | (rw [angX_t (by rw [hlx]; assumption)]; rfl) | (rw [angX_f (by rw [hlx]; assumption)]; rfl)), trivial⟩, rfl⟩
              ·
                rintro t50 s9 ⟨f49, e9⟩
                rw [e9]
                replace f49 : (upd (upd t50 0 (.float .f32 y)) 11 (.float .f64 (angX (cvt .f32 .f64 x) (angO (absF (cvt .f32 .f64 y)) (absF (cvt .f32 .f64 x)))))) = t50 := frame_ok f49
                rw [← f49]
                clear f49
                refine W.seq ?_
                refine W.seq ?_
                refine W.region ?_
                refine L.v (o_move (v := (.float .f32 y)) rfl) ?_
                refine L.v (o_fcmp (k := .f32) (a := y) (b := 0) rfl rfl rfl rfl) ?_
                refine L.nil ?_
                refine W.join (fun tt ss => FrOk tt [(11, (.float .f64 (angY (cvt .f32 .f64 y) (angX (cvt .f32 .f64 x) (angO (absF (cvt .f32 .f64 y)) (absF (cvt .f32 .f64 x)))))))] ∧ ss = s4) ?_ ?_
                ·
                  refine W.cond (b := fcmp .lss .f32 y 0) rfl (fun q54 => ?_) (fun q54 => ?_)
                  ·
                    refine W.region ?_
                    refine L.v (o_move (v := (.float .f64 (angX (cvt .f32 .f64 x) (angO (absF (cvt .f32 .f64 y)) (absF (cvt .f32 .f64 x)))))) rfl) ?_
                    refine L.v (o_fneg (k := .f64) (a := angX (cvt .f32 .f64 x) (angO (absF (cvt .f32 .f64 y)) (absF (cvt .f32 .f64 x)))) rfl) ?_
                    refine L.v (o_assign (v := (.float .f64 (Op.negFloat .f64 (angX (cvt .f32 .f64 x) (angO (absF (cvt .f32 .f64 y)) (absF (cvt .f32 .f64 x))))))) rfl) ?_
                    refine L.nil ?_
                    exact ⟨⟨(by first | (rw [angY_t (by rw [hly]; assumption)]; rfl) | (rw [angY_f (by rw [hly]; assumption)]; rfl)), trivial⟩, rfl⟩
                  ·
                    refine W.skip ?_
                    exact ⟨⟨(by first | (rw [angY_t (by rw [hly]; assumption)]; rfl) | (rw [angY_f (by rw [hly]; assumption)]; rfl)), trivial⟩, rfl⟩
                ·
                  rintro t53 s9 ⟨f52, e9⟩
                  rw [e9]
                  replace f52 : (upd t53 11 (.float .f64 (angY (cvt .f32 .f64 y) (angX (cvt .f32 .f64 x) (angO (absF (cvt .f32 .f64 y)) (absF (cvt .f32 .f64 x))))))) = t53 := frame_ok f52
                  rw [← f52]
                  clear f52
                  refine W.seq ?_
                  refine W.region ?_
                  refine L.v (o_move (v := (.float .f64 (angY (cvt .f32 .f64 y) (angX (cvt .f32 .f64 x) (angO (absF (cvt .f32 .f64 y)) (absF (cvt .f32 .f64 x))))))) rfl) ?_
                  refine L.v (o_cvFF (s := .f64) (d := .f32) (a := angY (cvt .f32 .f64 y) (angX (cvt .f32 .f64 x) (angO (absF (cvt .f32 .f64 y)) (absF (cvt .f32 .f64 x))))) (by rw [Try.underlying30]; rfl) Try.underlying24 rfl (by first | exact angG_ok2 hny hnx (.inl (by rw [hex]; assumption)) | exact angG_ok2 hny hnx (.inr (by rw [hey]; assumption)))) ?_
                  refine L.v (o_assign (v := (.float .f32 (cvt .f64 .f32 (angY (cvt .f32 .f64 y) (angX (cvt .f32 .f64 x) (angO (absF (cvt .f32 .f64 y)) (absF (cvt .f32 .f64 x)))))))) rfl) ?_
                  refine L.nil ?_
                  refine W.ret ?_
                  exact RetK.one σ (.float .f32 (cvt .f64 .f32 (angY (cvt .f32 .f64 y) (angX (cvt .f32 .f64 x) (angO (absF (cvt .f32 .f64 y)) (absF (cvt .f32 .f64 x))))))) rfl rfl ehx5 ⟨by first | (rw [angA, angW_g hny hnx (.inl (by rw [hex]; assumption)), angG]; done) | (rw [angA, angW_g hny hnx (.inr (by rw [hey]; assumption)), angG]; done), rfl⟩

theorem implAngOf {w0 : World} {σ : Sg} (a b : Nat) :
    FnV Try.prog w0 79 [(.complex .f32 a b)] σ (.float .f32 (angA b a)) := by
  unfold FnV
  refine Fn.of_W 8 Try.func79 rfl Try.ntmps79 rfl ?_
  refine W.seq ?_
  refine W.region ?_
  refine L.v (o_assign (v := (.float .f32 0)) rfl) ?_
  refine L.nil ?_
  refine W.seq ?_
  refine W.region ?_
  refine L.v (o_move (v := (.complex .f32 a b)) rfl) ?_
  refine L.v (o_imag (k := .f32) (a := a) (b := b) rfl) ?_
  refine L.v (o_move (v := (.complex .f32 a b)) rfl) ?_
  refine L.v (o_real (k := .f32) (a := a) (b := b) rfl) ?_
  refine L.v (v := (.float .f32 (angA b a))) (op_call [(.float .f32 b), (.float .f32 a)] Try.call75 rfl (implAng b a)) ?_
  refine L.v (o_assign (v := (.float .f32 (angA b a))) rfl) ?_
  refine L.nil ?_
  refine W.ret ?_
  exact RetK.one σ (.float .f32 (angA b a)) rfl rfl (Ext.refl _) ⟨rfl, rfl⟩

theorem specSqrt {w0 : World} {σ : Sg} (x : Nat) :
    FnV Try.prog w0 71 [(.float .f32 x)] σ (.float .f32 (cvt .f64 .f32 (sqF (cvt .f32 .f64 x)))) := by
  unfold FnV
  refine Fn.of_W 7 Try.func71 rfl Try.ntmps71 rfl ?_
  refine W.seq ?_
  refine W.region ?_
  refine L.v (o_assign (v := (.float .f32 0)) rfl) ?_
  refine L.nil ?_
  refine W.seq ?_
  refine W.region ?_
  refine L.v (o_move (v := (.float .f32 x)) rfl) ?_
  refine L.v (o_cvFF (s := .f32) (d := .f64) (a := x) (by rw [Try.underlying24]; rfl) Try.underlying30 rfl (okw x)) ?_
  refine L.v (v := (.float .f64 (sqF (cvt .f32 .f64 x)))) (op_call [(.float .f64 (cvt .f32 .f64 x))] Try.call101 rfl (sqrtC (cvt .f32 .f64 x))) ?_
  refine L.v (v := (.float .f32 (cvt .f64 .f32 (sqF (cvt .f32 .f64 x))))) (op_call [(.float .f64 (sqF (cvt .f32 .f64 x)))] Try.call80 rfl (narrowC (sqF (cvt .f32 .f64 x)) (sqF_ok _))) ?_
  refine L.v (o_assign (v := (.float .f32 (cvt .f64 .f32 (sqF (cvt .f32 .f64 x))))) rfl) ?_
  refine L.nil ?_
  refine W.ret ?_
  exact RetK.one σ (.float .f32 (cvt .f64 .f32 (sqF (cvt .f32 .f64 x)))) rfl rfl (Ext.refl _) ⟨rfl, rfl⟩

theorem implSqrt {w0 : World} {σ : Sg} (x : Nat) :
    FnV Try.prog w0 76 [(.float .f32 x)] σ (.float .f32 (cvt .f64 .f32 (sqF (cvt .f32 .f64 x)))) := by
  unfold FnV
  refine Fn.of_W 7 Try.func76 rfl Try.ntmps76 rfl ?_
  refine W.seq ?_
  refine W.region ?_
  refine L.v (o_assign (v := (.float .f32 0)) rfl) ?_
  refine L.nil ?_
  refine W.seq ?_
  refine W.region ?_
  refine L.v (o_move (v := (.float .f32 x)) rfl) ?_
  refine L.v (o_cvFF (s := .f32) (d := .f64) (a := x) (by rw [Try.underlying24]; rfl) Try.underlying30 rfl (okw x)) ?_
  refine L.v (v := (.float .f64 (sqF (cvt .f32 .f64 x)))) (op_call [(.float .f64 (cvt .f32 .f64 x))] Try.call101 rfl (sqrtC (cvt .f32 .f64 x))) ?_
  refine L.v (o_cvFF (s := .f64) (d := .f32) (a := sqF (cvt .f32 .f64 x)) (by rw [Try.underlying30]; rfl) Try.underlying24 rfl (sqF_ok _)) ?_
  refine L.v (o_assign (v := (.float .f32 (cvt .f64 .f32 (sqF (cvt .f32 .f64 x))))) rfl) ?_
  refine L.nil ?_
  refine W.ret ?_
  exact RetK.one σ (.float .f32 (cvt .f64 .f32 (sqF (cvt .f32 .f64 x)))) rfl rfl (Ext.refl _) ⟨rfl, rfl⟩

end Go.Proofs.Ytnonlibekcacgaa.En
