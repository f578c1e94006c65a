/-
  The engine: one law for each operation.
-/
import Derived.Test.YtnonlibekcacgaaEngB
namespace Go.Proofs.Ytnonlibekcacgaa.En
open Go
set_option linter.unusedVariables false
section
variable {P : Program} {w0 : World} {N : Nat} {ty : TypeId} {t : Fr} {σ : Sg}

theorem OpV.val {op : Op} {v : Value} (h : ∀ a w, Rel N t a → Sat w0 σ w → ∃ u w', (execOp a.eval ⟨none, op, ty, "", #[], none⟩).run P w = .ok (.value u) w' ∧ norm u = norm v ∧ Sat w0 σ w') : OpV P w0 N op ty t σ v := by
  intro a w hr hs
  obtain ⟨u, w', h1, h2, h3⟩ := h a w hr hs
  rw [h1]
  exact ⟨v, σ, h2, h3, rfl, rfl⟩
theorem OpV.pure {op : Op} {v : Value} (h : ∀ a w, Rel N t a → Sat w0 σ w → ∃ u, (execOp a.eval ⟨none, op, ty, "", #[], none⟩).run P w = .ok (.value u) w ∧ norm u = norm v) : OpV P w0 N op ty t σ v :=
  OpV.val fun a w hr hs => let ⟨u, h1, h2⟩ := h a w hr hs; ⟨u, w, h1, h2, hs⟩

/-! operands -/
theorem Rel.int {a : Act} (h : Rel N t a) {x : Operand} {k : IntKind} {n : Int} (hx : ev N t x = .int k n) : a.eval x = .int k n := sim_int (by rw [h.eval, hx])
theorem Rel.bool {a : Act} (h : Rel N t a) {x : Operand} {b : Bool} (hx : ev N t x = .bool b) : a.eval x = .bool b := sim_bool (by rw [h.eval, hx])
theorem Rel.slice {a : Act} (h : Rel N t a) {x : Operand} {p : Option Addr} {n c : Nat} (hx : ev N t x = .slice p n c) : a.eval x = .slice p n c := sim_slice (by rw [h.eval, hx])
theorem Rel.ptr {a : Act} (h : Rel N t a) {x : Operand} {p : Option Addr} (hx : ev N t x = .pointer p) : a.eval x = .pointer p := sim_pointer (by rw [h.eval, hx])
theorem Rel.float {a : Act} (h : Rel N t a) {x : Operand} {k : FloatKind} {n : Nat} (hx : ev N t x = .float k n) : ∃ n', a.eval x = .float k n' ∧ cn k n' = cn k n := sim_float (by rw [h.eval, hx])
theorem Rel.complex {a : Act} (h : Rel N t a) {x : Operand} {k : FloatKind} {n m : Nat} (hx : ev N t x = .complex k n m) : ∃ n' m', a.eval x = .complex k n' m' ∧ cn k n' = cn k n ∧ cn k m' = cn k m := sim_complex (by rw [h.eval, hx])

/-! moves -/
theorem o_move {x : Operand} {v : Value} (hx : ev N t x = v) : OpV P w0 N (.move x) ty t σ v :=
  OpV.pure fun a w hr hs => ⟨a.eval x, by simp [execOp], by rw [hr.eval, hx]⟩
theorem o_assign {x : Operand} {v : Value} (hx : ev N t x = v) : OpV P w0 N (.assign x) ty t σ v :=
  OpV.pure fun a w hr hs => ⟨a.eval x, by simp [execOp], by rw [hr.eval, hx]⟩
theorem o_pickT {c x y : Operand} {b : Bool} {v : Value} (hc : ev N t c = .bool b) (hb : b = true) (hx : ev N t x = v) : OpV P w0 N (.pick c x y) ty t σ v :=
  OpV.pure fun a w hr hs => ⟨a.eval x, by simp [execOp, hr.bool hc, hb, asBool], by rw [hr.eval, hx]⟩
theorem o_pickF {c x y : Operand} {b : Bool} {v : Value} (hc : ev N t c = .bool b) (hb : b = false) (hx : ev N t y = v) : OpV P w0 N (.pick c x y) ty t σ v :=
  OpV.pure fun a w hr hs => ⟨a.eval y, by simp [execOp, hr.bool hc, hb, asBool], by rw [hr.eval, hx]⟩
theorem o_extract {x : Operand} {i : Nat} {vs : Array Value} {v : Value} (hx : ev N t x = .tuple vs) (hv : vs[i]? = some v) (nv : notTup v = true) : OpV P w0 N (.extract x i) ty t σ v :=
  OpV.pure fun a w hr hs => by
    obtain ⟨us, hu, he⟩ := sim_tuple (v := a.eval x) (cs := vs) (by rw [hr.eval, hx])
    have h1 : (us.map n1)[i]? = (vs.map n1)[i]? := by rw [he]
    simp only [Array.getElem?_map, hv, Option.map_some] at h1
    cases h2 : us[i]? with
    | none => rw [h2] at h1; simp at h1
    | some u =>
      rw [h2] at h1
      simp at h1
      refine ⟨u, by simp [execOp, hu, Instr.extract, h2], ?_⟩
      have nu : notTup u = true := by
        cases u <;> first | rfl | skip
        cases v <;> first | (simp [n1, n0] at h1; done) | (exact absurd nv (by simp [notTup]))
      rw [norm_nt nu, norm_nt nv, h1]
theorem o_nilCheck {x : Operand} {p : Addr} (hx : ev N t x = .pointer (some p)) : OpV P w0 N (.nilCheck x) ty t σ (.pointer (some p)) :=
  OpV.pure fun a w hr hs => ⟨_, by simp [execOp, hr.ptr hx], rfl⟩

/-! lengths -/
theorem o_len {x : Operand} {T e : TypeId} {p : Option Addr} {n c : Nat} (hu : P.underlying T = some (.slice e)) (hx : ev N t x = .slice p n c) :
    OpV P w0 N (.call ⟨.builtin .len, #[x], #[T]⟩) ty t σ (.int .i64 n) :=
  OpV.pure fun a w hr hs => ⟨_, by simp [execOp, resolve, invoke, builtin, Builtin.len_, run_underlying hu, hr.slice hx, goInt], rfl⟩

/-! integers -/
theorem o_iadd {x y : Operand} {T U : TypeId} {k : IntKind} {a b c : Int} (hx : ev N t x = .int k a) (hy : ev N t y = .int k b) (hc : k.wrap (a + b) = c) : OpV P w0 N (.binOp .add T x y U) ty t σ (.int k c) :=
  OpV.pure fun ac w hr hs => ⟨.int k (k.wrap (a + b)), by simp [execOp, eqGuard, binOp, Op.intArith, hr.int hx, hr.int hy], by rw [hc]⟩
theorem o_isub {x y : Operand} {T U : TypeId} {k : IntKind} {a b c : Int} (hx : ev N t x = .int k a) (hy : ev N t y = .int k b) (hc : k.wrap (a - b) = c) : OpV P w0 N (.binOp .sub T x y U) ty t σ (.int k c) :=
  OpV.pure fun ac w hr hs => ⟨.int k (k.wrap (a - b)), by simp [execOp, eqGuard, binOp, Op.intArith, hr.int hx, hr.int hy], by rw [hc]⟩
theorem o_imul {x y : Operand} {T U : TypeId} {k : IntKind} {a b c : Int} (hx : ev N t x = .int k a) (hy : ev N t y = .int k b) (hc : k.wrap (a * b) = c) : OpV P w0 N (.binOp .mul T x y U) ty t σ (.int k c) :=
  OpV.pure fun ac w hr hs => ⟨.int k (k.wrap (a * b)), by simp [execOp, eqGuard, binOp, Op.intArith, hr.int hx, hr.int hy], by rw [hc]⟩
theorem o_iquo {x y : Operand} {T U : TypeId} {k : IntKind} {a b c : Int} (hx : ev N t x = .int k a) (hy : ev N t y = .int k b) (h0 : b ≠ 0) (hc : k.wrap (a.tdiv b) = c) : OpV P w0 N (.binOp .quo T x y U) ty t σ (.int k c) :=
  OpV.pure fun ac w hr hs => ⟨.int k (k.wrap (a.tdiv b)), by simp [execOp, eqGuard, binOp, Op.intDiv, hr.int hx, hr.int hy, h0], by rw [hc]⟩
theorem o_irem {x y : Operand} {T U : TypeId} {k : IntKind} {a b c : Int} (hx : ev N t x = .int k a) (hy : ev N t y = .int k b) (h0 : b ≠ 0) (hc : a.tmod b = c) : OpV P w0 N (.binOp .rem T x y U) ty t σ (.int k c) :=
  OpV.pure fun ac w hr hs => ⟨.int k (a.tmod b), by simp [execOp, eqGuard, binOp, Op.intDiv, hr.int hx, hr.int hy, h0], by rw [hc]⟩
theorem o_ilss {x y : Operand} {T U : TypeId} {k : IntKind} {a b : Int} {c : Bool} (hx : ev N t x = .int k a) (hy : ev N t y = .int k b) (hc : decide (a < b) = c) : OpV P w0 N (.binOp .lss T x y U) ty t σ (.bool c) :=
  OpV.pure fun ac w hr hs => ⟨.bool (decide (a < b)), by simp [execOp, eqGuard, binOp, Op.intCmp, hr.int hx, hr.int hy], by rw [hc]⟩
theorem o_ileq {x y : Operand} {T U : TypeId} {k : IntKind} {a b : Int} {c : Bool} (hx : ev N t x = .int k a) (hy : ev N t y = .int k b) (hc : decide (a ≤ b) = c) : OpV P w0 N (.binOp .leq T x y U) ty t σ (.bool c) :=
  OpV.pure fun ac w hr hs => ⟨.bool (decide (a ≤ b)), by simp [execOp, eqGuard, binOp, Op.intCmp, hr.int hx, hr.int hy], by rw [hc]⟩
theorem o_igtr {x y : Operand} {T U : TypeId} {k : IntKind} {a b : Int} {c : Bool} (hx : ev N t x = .int k a) (hy : ev N t y = .int k b) (hc : decide (b < a) = c) : OpV P w0 N (.binOp .gtr T x y U) ty t σ (.bool c) :=
  OpV.pure fun ac w hr hs => ⟨.bool (decide (b < a)), by simp [execOp, eqGuard, binOp, Op.intCmp, hr.int hx, hr.int hy], by rw [hc]⟩
theorem o_igeq {x y : Operand} {T U : TypeId} {k : IntKind} {a b : Int} {c : Bool} (hx : ev N t x = .int k a) (hy : ev N t y = .int k b) (hc : decide (b ≤ a) = c) : OpV P w0 N (.binOp .geq T x y U) ty t σ (.bool c) :=
  OpV.pure fun ac w hr hs => ⟨.bool (decide (b ≤ a)), by simp [execOp, eqGuard, binOp, Op.intCmp, hr.int hx, hr.int hy], by rw [hc]⟩
theorem o_ieql {x y : Operand} {T U : TypeId} {k : IntKind} {a b : Int} {c : Bool} (hx : ev N t x = .int k a) (hy : ev N t y = .int k b) (hc : decide (a = b) = c) : OpV P w0 N (.binOp .eql T x y U) ty t σ (.bool c) :=
  OpV.pure fun ac w hr hs => ⟨.bool (a == b), by simp [execOp, eqGuard, binOp, Op.intCmp, hr.int hx, hr.int hy], by rw [← hc]; rfl⟩
theorem o_ineq {x y : Operand} {T U : TypeId} {k : IntKind} {a b : Int} {c : Bool} (hx : ev N t x = .int k a) (hy : ev N t y = .int k b) (hc : (!decide (a = b)) = c) : OpV P w0 N (.binOp .neq T x y U) ty t σ (.bool c) :=
  OpV.pure fun ac w hr hs => ⟨.bool (a != b), by simp [execOp, eqGuard, binOp, Op.intCmp, hr.int hx, hr.int hy], by rw [← hc]; rfl⟩
theorem o_ineg {x : Operand} {T : TypeId} {k : IntKind} {a c : Int} (hx : ev N t x = .int k a) (hc : k.wrap (0 - a) = c) : OpV P w0 N (.unOp .neg T x) ty t σ (.int k c) :=
  OpV.pure fun ac w hr hs => ⟨.int k (k.wrap (0 - a)), by simp [execOp, Op.unary, Op.intArith, hr.int hx], by rw [hc]⟩

/-! bools -/
theorem o_not {x : Operand} {T : TypeId} {b c : Bool} (hx : ev N t x = .bool b) (hc : (!b) = c) : OpV P w0 N (.unOp .not T x) ty t σ (.bool c) :=
  OpV.pure fun ac w hr hs => ⟨.bool !b, by simp [execOp, Op.unary, hr.bool hx], by rw [hc]⟩
theorem run_eqIn_bool {T : TypeId} (hu : P.underlying T = some .bool) (d : Nat) (a b : Bool) (w : World) : (Op.equalIn (d + 1) T (.bool a) (.bool b)).run P w = .ok (a == b) w := by
  simp [Op.equalIn, run_underlying hu]
theorem run_eq_bool {T : TypeId} (hu : P.underlying T = some .bool) (a b : Bool) (w : World) : (Op.equal T (.bool a) (.bool b)).run P w = .ok (a == b) w := run_eqIn_bool hu 9999 a b w
theorem o_beql {x y : Operand} {T U : TypeId} {a b c : Bool} (hu : P.underlying T = some .bool) (hx : ev N t x = .bool a) (hy : ev N t y = .bool b) (hc : (a == b) = c) : OpV P w0 N (.binOp .eql T x y U) ty t σ (.bool c) :=
  OpV.pure fun ac w hr hs => by
    refine ⟨.bool (a == b), ?_, by rw [hc]⟩
    have e : binOp .eql T (.bool a) (.bool b) = (do pure (.bool (← Op.equal T (.bool a) (.bool b)))) := rfl
    simp only [execOp, hr.bool hx, hr.bool hy, eqGuard, e]
    simp [run_eq_bool hu]
theorem o_bneq {x y : Operand} {T U : TypeId} {a b c : Bool} (hu : P.underlying T = some .bool) (hx : ev N t x = .bool a) (hy : ev N t y = .bool b) (hc : (a != b) = c) : OpV P w0 N (.binOp .neq T x y U) ty t σ (.bool c) :=
  OpV.pure fun ac w hr hs => by
    refine ⟨.bool (!(a == b)), ?_, by rw [← hc]; rfl⟩
    have e : binOp .neq T (.bool a) (.bool b) = (do pure (.bool (!(← Op.equal T (.bool a) (.bool b))))) := rfl
    simp only [execOp, hr.bool hx, hr.bool hy, eqGuard, e]
    simp [run_eq_bool hu]

/-! floats -/
def arithB : BinOp → Bool
  | .add | .sub | .mul | .quo => true
  | _ => false
def cmpB : BinOp → Bool
  | .eql | .neq | .lss | .leq | .gtr | .geq => true
  | _ => false
theorem run_farith {op : BinOp} (ho : arithB op = true) (k : FloatKind) (x y : Nat) (w : World) {w0 : World} {σ : Sg} (hs : Sat w0 σ w) :
    ∃ r w', (Op.floatArith op k x y).run P w = .ok (.float k r) w' ∧ cn k r = cn k (fop op k x y) ∧ Sat w0 σ w' := by
  cases hb : floatBits op k x y with
  | some r =>
    refine ⟨r, w, run_floatArith w hb, ?_, hs⟩
    simp [fop, hb]
  | none =>
    have hr : ∃ n, (Op.floatArith op k x y).run P w = .ok (.float k ((Question.nanBits k x y).cut n)) { w with drawn := w.drawn + 1 } := by
      refine ⟨w.tape w.drawn (.nanBits k x y), ?_⟩
      cases op <;> simp [arithB] at ho <;> simp [floatBits] at hb <;> simp [Op.floatArith, hb, choose, Sem.run, Question.forced]
    obtain ⟨n, hr⟩ := hr
    refine ⟨_, _, hr, ?_, hs.drawn _⟩
    have hn : isnan k ((Question.nanBits k x y).cut n) = true := by
      cases k
      · exact isnan_cut32 n
      · exact isnan_cut64 n
    simp [fop, hb, cn_nan hn, cn_qnan]
theorem o_farith {x y : Operand} {T U : TypeId} {op : BinOp} {k : FloatKind} {a b : Nat} (ho : arithB op = true) (hx : ev N t x = .float k a) (hy : ev N t y = .float k b) : OpV P w0 N (.binOp op T x y U) ty t σ (.float k (fop op k a b)) :=
  OpV.val fun ac w hr hs => by
    obtain ⟨a', ha, ca⟩ := hr.float hx
    obtain ⟨b', hb, cb⟩ := hr.float hy
    obtain ⟨r, w', h1, h2, h3⟩ := run_farith (P := P) ho k a' b' w hs
    refine ⟨.float k r, w', ?_, by rw [norm_float, norm_float, h2, fop_congr ca cb], h3⟩
    cases op <;> simp [arithB] at ho <;> simp [execOp, eqGuard, binOp, ha, hb, h1]
theorem o_fcmp {x y : Operand} {T U : TypeId} {op : BinOp} {k : FloatKind} {a b : Nat} {c : Bool} (ho : cmpB op = true) (hx : ev N t x = .float k a) (hy : ev N t y = .float k b) (hc : fcmp op k a b = c) : OpV P w0 N (.binOp op T x y U) ty t σ (.bool c) :=
  OpV.pure fun ac w hr hs => by
    obtain ⟨a', ha, ca⟩ := hr.float hx
    obtain ⟨b', hb, cb⟩ := hr.float hy
    refine ⟨.bool (fcmp op k a' b'), ?_, by rw [fcmp_congr ca cb, hc]⟩
    cases op <;> simp [cmpB] at ho <;> simp [execOp, eqGuard, binOp, ha, hb, Op.floatCmp, fcmp]
theorem o_fneg {x : Operand} {T : TypeId} {k : FloatKind} {a : Nat} (hx : ev N t x = .float k a) : OpV P w0 N (.unOp .neg T x) ty t σ (.float k (Op.negFloat k a)) :=
  OpV.pure fun ac w hr hs => by
    obtain ⟨a', ha, ca⟩ := hr.float hx
    exact ⟨.float k (Op.negFloat k a'), by simp [execOp, Op.unary, ha], by rw [norm_float, norm_float, neg_congr ca]⟩

/-! complex numbers -/
theorem o_real {x : Operand} {tys : Array TypeId} {k : FloatKind} {a b : Nat} (hx : ev N t x = .complex k a b) : OpV P w0 N (.call ⟨.builtin .real, #[x], tys⟩) ty t σ (.float k a) :=
  OpV.pure fun ac w hr hs => by
    obtain ⟨a', b', h, ca, cb⟩ := hr.complex hx
    exact ⟨.float k a', by simp [execOp, resolve, invoke, builtin, h, show ∀ tys ty, Builtin.real_ tys ty #[.complex k a' b'] = pure (.float k a') from fun _ _ => rfl], by rw [norm_float, norm_float, ca]⟩
theorem o_imag {x : Operand} {tys : Array TypeId} {k : FloatKind} {a b : Nat} (hx : ev N t x = .complex k a b) : OpV P w0 N (.call ⟨.builtin .imag, #[x], tys⟩) ty t σ (.float k b) :=
  OpV.pure fun ac w hr hs => by
    obtain ⟨a', b', h, ca, cb⟩ := hr.complex hx
    exact ⟨.float k b', by simp [execOp, resolve, invoke, builtin, h, show ∀ tys ty, Builtin.imag_ tys ty #[.complex k a' b'] = pure (.float k b') from fun _ _ => rfl], by rw [norm_float, norm_float, cb]⟩
theorem o_complex {x y : Operand} {tys : Array TypeId} {k : FloatKind} {a b : Nat} (hx : ev N t x = .float k a) (hy : ev N t y = .float k b) : OpV P w0 N (.call ⟨.builtin .complex, #[x, y], tys⟩) ty t σ (.complex k a b) :=
  OpV.pure fun ac w hr hs => by
    obtain ⟨a', ha, ca⟩ := hr.float hx
    obtain ⟨b', hb, cb⟩ := hr.float hy
    exact ⟨.complex k a' b', by simp [execOp, resolve, invoke, builtin, ha, hb, show ∀ tys ty, Builtin.complex_ tys ty #[.float k a', .float k b'] = pure (.complex k a' b') from fun _ _ => if_pos rfl], by rw [norm_complex, norm_complex, ca, cb]⟩
theorem o_cadd {x y : Operand} {T U : TypeId} {k : FloatKind} {a b c d : Nat} (hx : ev N t x = .complex k a b) (hy : ev N t y = .complex k c d) :
    OpV P w0 N (.binOp .add T x y U) ty t σ (.complex k (fop .add k a c) (fop .add k b d)) :=
  OpV.val fun ac w hr hs => by
    obtain ⟨a', b', h, ca, cb⟩ := hr.complex hx
    obtain ⟨c', d', g, cc, cd⟩ := hr.complex hy
    obtain ⟨r, w1, h1, h2, h3⟩ := run_farith (P := P) (op := .add) rfl k a' c' w hs
    obtain ⟨q, w2, k1, k2, k3⟩ := run_farith (P := P) (op := .add) rfl k b' d' w1 h3
    refine ⟨.complex k r q, w2, ?_, by rw [norm_complex, norm_complex, h2, k2, fop_congr ca cc, fop_congr cb cd], k3⟩
    simp [execOp, eqGuard, binOp, h, g, Op.complexOp, Op.Complex.arith, h1, k1]
theorem o_ceql {x y : Operand} {T U : TypeId} {k : FloatKind} {a b c d : Nat} {e : Bool} (hx : ev N t x = .complex k a b) (hy : ev N t y = .complex k c d) (he : (fcmp .eql k a c && fcmp .eql k b d) = e) :
    OpV P w0 N (.binOp .eql T x y U) ty t σ (.bool e) :=
  OpV.pure fun ac w hr hs => by
    obtain ⟨a', b', h, ca, cb⟩ := hr.complex hx
    obtain ⟨c', d', g, cc, cd⟩ := hr.complex hy
    refine ⟨.bool (fcmp .eql k a' c' && fcmp .eql k b' d'), ?_, by rw [fcmp_congr ca cc, fcmp_congr cb cd, he]⟩
    simp [execOp, eqGuard, binOp, h, g, Op.complexOp, Op.Complex.cmp, Op.floatCmp, asBool, fcmp]
theorem o_cneq {x y : Operand} {T U : TypeId} {k : FloatKind} {a b c d : Nat} {e : Bool} (hx : ev N t x = .complex k a b) (hy : ev N t y = .complex k c d) (he : (!(fcmp .eql k a c && fcmp .eql k b d)) = e) :
    OpV P w0 N (.binOp .neq T x y U) ty t σ (.bool e) :=
  OpV.pure fun ac w hr hs => by
    obtain ⟨a', b', h, ca, cb⟩ := hr.complex hx
    obtain ⟨c', d', g, cc, cd⟩ := hr.complex hy
    refine ⟨.bool (!(fcmp .eql k a' c' && fcmp .eql k b' d')), ?_, by rw [fcmp_congr ca cc, fcmp_congr cb cd, he]⟩
    simp [execOp, eqGuard, binOp, h, g, Op.complexOp, Op.Complex.cmp, Op.floatCmp, asBool, fcmp]

/-! conversions -/
theorem o_cvII {x : Operand} {S D : TypeId} {k d : IntKind} {a c : Int} (hs : (P.underlying S).isSome = true) (hd : P.underlying D = some (.int d)) (hx : ev N t x = .int k a) (hc : d.wrap a = c) : OpV P w0 N (.convert S D x) ty t σ (.int d c) :=
  OpV.pure fun ac w hr hss => by
    obtain ⟨u, hs'⟩ := Option.isSome_iff_exists.1 hs
    refine ⟨.int d (d.wrap a), ?_, by rw [hc]⟩
    cases u <;> simp [execOp, convert, run_underlying hs', run_underlying hd, hr.int hx, Conv.intToInt]
theorem o_cvIF {x : Operand} {S D : TypeId} {k : IntKind} {d : FloatKind} {a : Int} (hs : (P.underlying S).isSome = true) (hd : P.underlying D = some (.float d)) (hx : ev N t x = .int k a) : OpV P w0 N (.convert S D x) ty t σ (.float d (d.nearest a)) :=
  OpV.pure fun ac w hr hss => by
    obtain ⟨u, hs'⟩ := Option.isSome_iff_exists.1 hs
    refine ⟨.float d (d.nearest a), ?_, rfl⟩
    cases u <;> simp [execOp, convert, run_underlying hs', run_underlying hd, hr.int hx, Conv.intToFloat]
theorem run_f2f {s d : FloatKind} {b : Nat} (ho : okcvt s d b = true) (w : World) {w0 : World} {σ : Sg} (hs : Sat w0 σ w) :
    ∃ r w', (Conv.floatToFloat s b d).run P w = .ok (.float d r) w' ∧ cn d r = cn d (cvt s d b) ∧ Sat w0 σ w' := by
  cases hb : floatToFloatBits s b d with
  | some r => exact ⟨r, w, run_floatToFloat w hb, by simp [cvt, hb], hs⟩
  | none =>
    have hn : isnan s b = true := by simpa [okcvt, hb] using ho
    have hne : s ≠ d := fun e => by subst e; simp [floatToFloatBits] at hb
    obtain ⟨g, m, hd⟩ := decode_nan hn
    refine ⟨(Question.nanConv d b).cut (w.tape w.drawn (.nanConv d b)), { w with drawn := w.drawn + 1 }, ?_, ?_, hs.drawn _⟩
    · simp [Conv.floatToFloat, hne, hd, choose, Sem.run, Question.forced]
    · have hn : isnan d ((Question.nanConv d b).cut (w.tape w.drawn (.nanConv d b))) = true := by
        cases d
        · exact isnan_cut32 _
        · exact isnan_cut64 _
      simp [cvt, hb, cn_nan hn, cn_qnan]
theorem o_cvFF {x : Operand} {S D : TypeId} {s d : FloatKind} {a : Nat} (hs : (P.underlying S).isSome = true) (hd : P.underlying D = some (.float d)) (hx : ev N t x = .float s a) (ho : okcvt s d a = true) : OpV P w0 N (.convert S D x) ty t σ (.float d (cvt s d a)) :=
  OpV.val fun ac w hr hss => by
    obtain ⟨u, hs'⟩ := Option.isSome_iff_exists.1 hs
    obtain ⟨a', ha, ca⟩ := hr.float hx
    obtain ⟨r, w', h1, h2, h3⟩ := run_f2f (P := P) (by rw [okcvt_congr ca]; exact ho) w hss
    refine ⟨.float d r, w', ?_, by rw [norm_float, norm_float, h2, cvt_congr ca], h3⟩
    cases u <;> simp [execOp, convert, run_underlying hs', run_underlying hd, ha, h1]
theorem o_cvFI {x : Operand} {S D : TypeId} {s : FloatKind} {d : IntKind} {a : Nat} {n : Int} (hs : (P.underlying S).isSome = true) (hd : P.underlying D = some (.int d)) (hx : ev N t x = .float s a) (hn : isnan s a = false) (hv : floatToIntVal s a d = some n) : OpV P w0 N (.convert S D x) ty t σ (.int d n) :=
  OpV.pure fun ac w hr hss => by
    obtain ⟨a', ha, ca⟩ := hr.float hx
    have e : a' = a := by
      rcases cn_eq ca with h | ⟨_, h⟩
      · exact h
      · rw [hn] at h; cases h
    subst e
    refine ⟨.int d n, ?_, rfl⟩
    have := run_convert_float_int (P := P) w S D s d a' n hs hd hv
    simp [execOp, ha, this]
theorem o_cvCC {x : Operand} {S D : TypeId} {s d : FloatKind} {a b : Nat} (hs : (P.underlying S).isSome = true) (hd : P.underlying D = some (.complex d)) (hx : ev N t x = .complex s a b) (ho : okcvt s d a = true) (ho' : okcvt s d b = true) : OpV P w0 N (.convert S D x) ty t σ (.complex d (cvt s d a) (cvt s d b)) :=
  OpV.val fun ac w hr hss => by
    obtain ⟨u, hs'⟩ := Option.isSome_iff_exists.1 hs
    obtain ⟨a', b', ha, ca, cb⟩ := hr.complex hx
    obtain ⟨r, w', h1, h2, h3⟩ := run_f2f (P := P) (by rw [okcvt_congr ca]; exact ho) w hss
    obtain ⟨q, w'', k1, k2, k3⟩ := run_f2f (P := P) (by rw [okcvt_congr cb]; exact ho') w' h3
    refine ⟨.complex d r q, w'', ?_, by rw [norm_complex, norm_complex, h2, k2, cvt_congr ca, cvt_congr cb], k3⟩
    cases u <;> simp [execOp, convert, run_underlying hs', run_underlying hd, ha, Conv.complexToComplex, h1, k1]
end
end Go.Proofs.Ytnonlibekcacgaa.En
