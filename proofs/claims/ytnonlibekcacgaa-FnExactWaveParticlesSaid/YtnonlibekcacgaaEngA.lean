/-
  Values up to the bits of a NaN: what float operations give as plain functions, and that they respect that. No program in sight.
-/
import Derived.WalkKit
import Derived.WalkLawsBesides
namespace Go.Proofs.Ytnonlibekcacgaa.En
open Go
set_option linter.unusedVariables false

/-! ### floats -/
def qnan : FloatKind → Nat
  | .f32 => 2143289344
  | .f64 => 9221120237041090560
def isnan (k : FloatKind) (b : Nat) : Bool := (k.decode b).isNaN
def cn (k : FloatKind) (b : Nat) : Nat := bif isnan k b then qnan k else b

theorem isnan_qnan (k : FloatKind) : isnan k (qnan k) = true := by cases k <;> decide +kernel
theorem isnan_cn (k : FloatKind) (b : Nat) : isnan k (cn k b) = isnan k b := by
  unfold cn
  cases h : isnan k b with
  | true => simpa using isnan_qnan k
  | false => simpa using h
theorem cn_cn (k : FloatKind) (b : Nat) : cn k (cn k b) = cn k b := by
  show (bif isnan k (cn k b) then qnan k else cn k b) = cn k b
  rw [isnan_cn]
  unfold cn
  cases isnan k b <;> rfl
theorem cn_nan {k : FloatKind} {b : Nat} (h : isnan k b = true) : cn k b = qnan k := by simp [cn, h]
theorem cn_num {k : FloatKind} {b : Nat} (h : isnan k b = false) : cn k b = b := by simp [cn, h]
theorem cn_eq {k : FloatKind} {a b : Nat} (h : cn k a = cn k b) : a = b ∨ (isnan k a = true ∧ isnan k b = true) := by
  have h' : isnan k a = isnan k b := by rw [← isnan_cn k a, h, isnan_cn]
  cases ha : isnan k a with
  | true => exact .inr ⟨rfl, by rw [← h', ha]⟩
  | false =>
    rw [cn_num ha, cn_num (by rw [← h', ha])] at h
    exact .inl h
theorem cn_qnan (k : FloatKind) : cn k (qnan k) = qnan k := cn_nan (isnan_qnan k)
theorem isnan_congr {k : FloatKind} {a b : Nat} (h : cn k a = cn k b) : isnan k a = isnan k b := by rw [← isnan_cn k a, h, isnan_cn]

theorem decode_nan {k : FloatKind} {b : Nat} (h : isnan k b = true) : ∃ s t, k.decode b = .nan s t := by
  unfold isnan Ieee.Datum.isNaN at h
  split at h
  · rename_i s t hh; exact ⟨s, t, hh⟩
  · cases h

/-- a float operation, the NaN made one -/
def fop (op : BinOp) (k : FloatKind) (x y : Nat) : Nat := (floatBits op k x y).getD (qnan k)
/-- the six comparisons -/
def fcmp (op : BinOp) (k : FloatKind) (x y : Nat) : Bool :=
  match op with
  | .eql => k.format.order x y == some .eq
  | .neq => k.format.order x y != some .eq
  | .lss => k.format.order x y == some .lt
  | .leq => k.format.order x y == some .lt || k.format.order x y == some .eq
  | .gtr => k.format.order x y == some .gt
  | .geq => k.format.order x y == some .gt || k.format.order x y == some .eq
  | _ => false

theorem floatBits_nan_left {op : BinOp} {k : FloatKind} {x y : Nat} (h : isnan k x = true) : floatBits op k x y = none := by
  obtain ⟨s, t, hd⟩ := decode_nan h
  have hd' : k.format.read x = .nan s t := hd
  cases op <;> simp [floatBits, Ieee.Format.add, Ieee.Format.sub, Ieee.Format.mul, Ieee.Format.div, hd', Ieee.Datum.sum, Ieee.Datum.product, Ieee.Datum.quotient]
theorem floatBits_nan_right {op : BinOp} {k : FloatKind} {x y : Nat} (h : isnan k y = true) : floatBits op k x y = none := by
  obtain ⟨s, t, hd⟩ := decode_nan h
  have hd' : k.format.read y = .nan s t := hd
  have ho : (Ieee.Datum.nan s t).opposite = .nan (!s) t := rfl
  cases op <;> simp [floatBits, Ieee.Format.add, Ieee.Format.sub, Ieee.Format.mul, Ieee.Format.div, hd', ho]
  · cases k.format.read x <;> simp [Ieee.Datum.sum]
  · cases k.format.read x <;> simp [Ieee.Datum.sum]
  · cases k.format.read x <;> simp [Ieee.Datum.product]
  · cases k.format.read x <;> simp [Ieee.Datum.quotient]
theorem order_nan_left {k : FloatKind} {x y : Nat} (h : isnan k x = true) : k.format.order x y = none := by
  obtain ⟨s, t, hd⟩ := decode_nan h
  have hd' : k.format.read x = .nan s t := hd
  simp [Ieee.Format.order, hd', Ieee.Datum.order]
theorem order_nan_right {k : FloatKind} {x y : Nat} (h : isnan k y = true) : k.format.order x y = none := by
  obtain ⟨s, t, hd⟩ := decode_nan h
  have hd' : k.format.read y = .nan s t := hd
  simp only [Ieee.Format.order, hd']
  cases k.format.read x <;> simp [Ieee.Datum.order]

theorem floatBits_congr {op : BinOp} {k : FloatKind} {x x' y y' : Nat} (hx : cn k x' = cn k x) (hy : cn k y' = cn k y) : floatBits op k x' y' = floatBits op k x y := by
  rcases cn_eq hx with rfl | ⟨h1, h2⟩
  · rcases cn_eq hy with rfl | ⟨h1, h2⟩
    · rfl
    · rw [floatBits_nan_right h1, floatBits_nan_right h2]
  · rw [floatBits_nan_left h1, floatBits_nan_left h2]
theorem order_congr {k : FloatKind} {x x' y y' : Nat} (hx : cn k x' = cn k x) (hy : cn k y' = cn k y) : k.format.order x' y' = k.format.order x y := by
  rcases cn_eq hx with rfl | ⟨h1, h2⟩
  · rcases cn_eq hy with rfl | ⟨h1, h2⟩
    · rfl
    · rw [order_nan_right h1, order_nan_right h2]
  · rw [order_nan_left h1, order_nan_left h2]
theorem fcmp_congr {op : BinOp} {k : FloatKind} {x x' y y' : Nat} (hx : cn k x' = cn k x) (hy : cn k y' = cn k y) : fcmp op k x' y' = fcmp op k x y := by
  unfold fcmp; rw [order_congr hx hy]
theorem fop_congr {op : BinOp} {k : FloatKind} {x x' y y' : Nat} (hx : cn k x' = cn k x) (hy : cn k y' = cn k y) : fop op k x' y' = fop op k x y := by
  unfold fop; rw [floatBits_congr hx hy]

/-- the bits that the tape gives for a NaN are a NaN's -/
theorem isnan_cut32 (t : Nat) : isnan .f32 ((t % 2) * 2 ^ 31 + 0x7f800000 + 1 + (t / 2) % (2 ^ 23 - 1)) = true := by
  have h1 : t % 2 = 0 ∨ t % 2 = 1 := by omega
  have h2 : (t / 2) % (2 ^ 23 - 1) < 2 ^ 23 - 1 := Nat.mod_lt _ (by decide)
  generalize (t / 2) % (2 ^ 23 - 1) = r at *
  generalize t % 2 = s at *
  have e : (s * 2 ^ 31 + 0x7f800000 + 1 + r) % 2147483648 = 2139095041 + r := by rcases h1 with rfl | rfl <;> omega
  unfold isnan FloatKind.decode FloatKind.format Ieee.Format.read
  have eb : Ieee.single.binade = 8388608 := by decide
  have es : Ieee.single.signWeight = 2147483648 := by decide
  have ei : Ieee.single.infRung = 2139095040 := by decide
  simp only [eb, es, ei, e]
  rw [if_neg (by omega), if_neg (by omega), if_neg (by omega)]
  rfl
theorem isnan_cut64 (t : Nat) : isnan .f64 ((t % 2) * 2 ^ 63 + 0x7ff0000000000000 + 1 + (t / 2) % (2 ^ 52 - 1)) = true := by
  have h1 : t % 2 = 0 ∨ t % 2 = 1 := by omega
  have h2 : (t / 2) % (2 ^ 52 - 1) < 2 ^ 52 - 1 := Nat.mod_lt _ (by decide)
  generalize (t / 2) % (2 ^ 52 - 1) = r at *
  generalize t % 2 = s at *
  have e : (s * 2 ^ 63 + 0x7ff0000000000000 + 1 + r) % 9223372036854775808 = 9218868437227405313 + r := by rcases h1 with rfl | rfl <;> omega
  unfold isnan FloatKind.decode FloatKind.format Ieee.Format.read
  have eb : Ieee.double.binade = 4503599627370496 := by decide
  have es : Ieee.double.signWeight = 9223372036854775808 := by decide
  have ei : Ieee.double.infRung = 9218868437227405312 := by decide
  simp only [eb, es, ei, e]
  rw [if_neg (by omega), if_neg (by omega), if_neg (by omega)]
  rfl

/-- the rung alone tells a NaN -/
theorem isnan_rung (k : FloatKind) (b : Nat) : isnan k b = decide (k.format.infRung < b % k.format.signWeight) := by
  have hib := k.format.infRung_add_binade
  have hlt := k.format.infRung_lt
  have hle : k.format.binade ≤ k.format.infRung := by cases k <;> decide
  unfold isnan FloatKind.decode Ieee.Format.read
  dsimp only
  generalize b % k.format.signWeight = r
  split
  · simp [Ieee.Datum.isNaN]; omega
  · split
    · simp [Ieee.Datum.isNaN]; omega
    · split
      · simp [Ieee.Datum.isNaN]; omega
      · simp [Ieee.Datum.isNaN]; omega
theorem isnan_neg (k : FloatKind) (b : Nat) : isnan k (Op.negFloat k b) = isnan k b := by
  rw [isnan_rung, isnan_rung]
  have : Op.negFloat k b % k.format.signWeight = b % k.format.signWeight := by
    unfold Op.negFloat Ieee.Format.signWeight
    rw [Nat.xor_mod_two_pow, Nat.mod_self, Nat.xor_zero]
  rw [this]
theorem neg_congr {k : FloatKind} {a b : Nat} (h : cn k a = cn k b) : cn k (Op.negFloat k a) = cn k (Op.negFloat k b) := by
  rcases cn_eq h with rfl | ⟨h1, h2⟩
  · rfl
  · rw [cn_nan (by rw [isnan_neg]; exact h1), cn_nan (by rw [isnan_neg]; exact h2)]

/-- float to float -/
def cvt (s : FloatKind) (d : FloatKind) (b : Nat) : Nat := (floatToFloatBits s b d).getD (qnan d)
def okcvt (s d : FloatKind) (b : Nat) : Bool := isnan s b || (floatToFloatBits s b d).isSome
theorem floatToFloatBits_nan {s d : FloatKind} {b : Nat} (hne : s ≠ d) (h : isnan s b = true) : floatToFloatBits s b d = none := by
  obtain ⟨g, t, hd⟩ := decode_nan h
  simp [floatToFloatBits, hne, hd]
theorem cvt_congr {s d : FloatKind} {a b : Nat} (h : cn s a = cn s b) : cn d (cvt s d a) = cn d (cvt s d b) := by
  rcases cn_eq h with rfl | ⟨h1, h2⟩
  · rfl
  · by_cases hsd : s = d
    · subst hsd; simp [cvt, floatToFloatBits, h]
    · simp [cvt, floatToFloatBits_nan hsd h1, floatToFloatBits_nan hsd h2]
theorem okcvt_congr {s d : FloatKind} {a b : Nat} (h : cn s a = cn s b) : okcvt s d a = okcvt s d b := by
  rcases cn_eq h with rfl | ⟨h1, h2⟩
  · rfl
  · simp [okcvt, h1, h2]

/-! ### values -/
def n0 : Value → Value
  | .float k b => .float k (cn k b)
  | .complex k a b => .complex k (cn k a) (cn k b)
  | v => v
def n1 : Value → Value
  | .agg cs => .agg (cs.map n0)
  | v => n0 v
def norm : Value → Value
  | .tuple vs => .tuple (vs.map n1)
  | v => n1 v

theorem n0_n0 (v : Value) : n0 (n0 v) = n0 v := by cases v <;> simp [n0, cn_cn]
theorem sim_float {v : Value} {k : FloatKind} {b : Nat} (h : norm v = norm (.float k b)) : ∃ b', v = .float k b' ∧ cn k b' = cn k b := by
  cases v <;> simp [norm, n1, n0] at h
  obtain ⟨rfl, h⟩ := h; exact ⟨_, rfl, h⟩
theorem sim_complex {v : Value} {k : FloatKind} {a b : Nat} (h : norm v = norm (.complex k a b)) : ∃ a' b', v = .complex k a' b' ∧ cn k a' = cn k a ∧ cn k b' = cn k b := by
  cases v <;> simp [norm, n1, n0] at h
  obtain ⟨rfl, h⟩ := h; exact ⟨_, _, rfl, h⟩
theorem sim_int {v : Value} {k : IntKind} {n : Int} (h : norm v = norm (.int k n)) : v = .int k n := by
  cases v <;> simp [norm, n1, n0] at h ⊢; exact h
theorem sim_bool {v : Value} {b : Bool} (h : norm v = norm (.bool b)) : v = .bool b := by
  cases v <;> simp [norm, n1, n0] at h ⊢; exact h
theorem sim_pointer {v : Value} {a : Option Addr} (h : norm v = norm (.pointer a)) : v = .pointer a := by
  cases v <;> simp [norm, n1, n0] at h ⊢; exact h
theorem sim_slice {v : Value} {a : Option Addr} {l c : Nat} (h : norm v = norm (.slice a l c)) : v = .slice a l c := by
  cases v <;> simp [norm, n1, n0] at h ⊢; exact h
theorem sim_func {v : Value} {f : Fn} {x y : Array Value} (h : norm v = norm (.func f x y)) : v = .func f x y := by
  cases v <;> simp [norm, n1, n0] at h ⊢; exact h
theorem sim_agg {v : Value} {cs : Array Value} (h : norm v = norm (.agg cs)) : ∃ cs', v = .agg cs' ∧ cs'.map n0 = cs.map n0 := by
  cases v <;> simp [norm, n1, n0] at h ⊢; exact h
theorem sim_tuple {v : Value} {cs : Array Value} (h : norm v = norm (.tuple cs)) : ∃ cs', v = .tuple cs' ∧ cs'.map n1 = cs.map n1 := by
  cases v <;> simp [norm, n1, n0] at h ⊢; exact h
theorem norm_agg (cs : Array Value) : norm (.agg cs) = .agg (cs.map n0) := rfl
theorem norm_tuple (cs : Array Value) : norm (.tuple cs) = .tuple (cs.map n1) := rfl
theorem norm_float (k : FloatKind) (b : Nat) : norm (.float k b) = .float k (cn k b) := rfl
theorem norm_complex (k : FloatKind) (a b : Nat) : norm (.complex k a b) = .complex k (cn k a) (cn k b) := rfl
theorem norm_one {u : Value} (hu : u.oneCell' = true) : norm u = n0 u := by
  cases u <;> simp_all [norm, n1, n0, Value.oneCell']
theorem n0_one {u v : Value} (h : n0 u = n0 v) (hv : v.oneCell' = true) : u.oneCell' = true := by
  cases u <;> cases v <;> simp_all [n0, Value.oneCell']
theorem norm_of_n0 {u v : Value} (h : n0 u = n0 v) (hv : v.oneCell' = true) : norm u = norm v := by
  rw [norm_one (n0_one h hv), norm_one hv, h]
theorem norm_onecell {u v : Value} (h : norm u = norm v) (hv : v.oneCell' = true) : u.oneCell' = true := by
  cases u <;> cases v <;> simp_all [norm, n1, n0, Value.oneCell']
theorem n0_of_norm {u v : Value} (h : norm u = norm v) (hv : v.oneCell' = true) : n0 u = n0 v := by
  rw [← norm_one (norm_onecell h hv), ← norm_one hv, h]
end Go.Proofs.Ytnonlibekcacgaa.En
