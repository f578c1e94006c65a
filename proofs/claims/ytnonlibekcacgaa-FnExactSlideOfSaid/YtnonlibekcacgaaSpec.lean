/- The phasor at whole parts of a turn; the spectrum of a list in the program and in the reference. -/
import Derived.Test.YtnonlibekcacgaaRecs
import Derived.Test.YtnonlibekcacgaaRows
namespace Go.Proofs.Ytnonlibekcacgaa.En
open Go
set_option linter.unusedVariables false
set_option maxRecDepth 100000
def sub4 (f : Nat) : Nat → Nat
  | 0 => f
  | j + 1 => fop .sub .f64 (sub4 f j) 4598175219545276416
def phC (f q : Nat) : Nat × Nat :=
  if (q : Int) = 1 then (cvt .f64 .f32 (fop .sub .f64 0 (sineV (fr (sub4 f q)))), cvt .f64 .f32 (sineV (fr (fop .sub .f64 4598175219545276416 (sub4 f q)))))
  else if (q : Int) = 2 then (cvt .f64 .f32 (fop .sub .f64 0 (sineV (fr (fop .sub .f64 4598175219545276416 (sub4 f q))))), cvt .f64 .f32 (fop .sub .f64 0 (sineV (fr (sub4 f q)))))
  else if (q : Int) = 3 then (cvt .f64 .f32 (sineV (fr (sub4 f q))), cvt .f64 .f32 (fop .sub .f64 0 (sineV (fr (fop .sub .f64 4598175219545276416 (sub4 f q))))))
  else (cvt .f64 .f32 (sineV (fr (fop .sub .f64 4598175219545276416 (sub4 f q)))), cvt .f64 .f32 (sineV (fr (sub4 f q))))
theorem ph_1 {f q : Nat} (h : (q : Int) = 1) : phC f q = (cvt .f64 .f32 (fop .sub .f64 0 (sineV (fr (sub4 f q)))), cvt .f64 .f32 (sineV (fr (fop .sub .f64 4598175219545276416 (sub4 f q))))) := if_pos h
theorem ph_2 {f q : Nat} (h1 : ¬ (q : Int) = 1) (h : (q : Int) = 2) : phC f q = (cvt .f64 .f32 (fop .sub .f64 0 (sineV (fr (fop .sub .f64 4598175219545276416 (sub4 f q))))), cvt .f64 .f32 (fop .sub .f64 0 (sineV (fr (sub4 f q))))) := by
  rw [phC, if_neg h1, if_pos h]
theorem ph_3 {f q : Nat} (h1 : ¬ (q : Int) = 1) (h2 : ¬ (q : Int) = 2) (h : (q : Int) = 3) : phC f q = (cvt .f64 .f32 (sineV (fr (sub4 f q))), cvt .f64 .f32 (fop .sub .f64 0 (sineV (fr (fop .sub .f64 4598175219545276416 (sub4 f q)))))) := by
  rw [phC, if_neg h1, if_neg h2, if_pos h]
theorem ph_4 {f q : Nat} (h1 : ¬ (q : Int) = 1) (h2 : ¬ (q : Int) = 2) (h : ¬ (q : Int) = 3) : phC f q = (cvt .f64 .f32 (sineV (fr (fop .sub .f64 4598175219545276416 (sub4 f q)))), cvt .f64 .f32 (sineV (fr (sub4 f q)))) := by
  rw [phC, if_neg h1, if_neg h2, if_neg h]
structure PhF (f q : Nat) : Prop where
  le : q ≤ 8
  ge : ∀ j, j < q → fcmp .geq .f64 (sub4 f j) 4598175219545276416 = true
  lt : fcmp .geq .f64 (sub4 f q) 4598175219545276416 = false
  c : FineS (fop .sub .f64 4598175219545276416 (sub4 f q))
  s : FineS (sub4 f q)
  okc : okcvt .f64 .f32 (fop .sub .f64 0 (sineV (fr (fop .sub .f64 4598175219545276416 (sub4 f q))))) = true
  oks : okcvt .f64 .f32 (fop .sub .f64 0 (sineV (fr (sub4 f q)))) = true
theorem small_P {t : Nat} {z : Int} (h : val t = some z) (hz : z.natAbs ≤ P2 1074) : Small t := ⟨z, h, by
  have h1 := P2_add 52 1074
  have h2 := P2_pos 1074
  rw [show (52 + 1074 : Nat) = 1126 by decide, P2_def 52] at h1
  rw [h1]
  omega⟩
theorem neg_ok {t : Nat} (h : Small t) : okcvt .f64 .f32 (fop .sub .f64 0 (sineV (fr t))) = true := by
  obtain ⟨z, h1, h2⟩ := sineV_ok h
  obtain ⟨y, k1, k2, _⟩ := sub_P val_0 h1 (B := 1083) (by omega) (by omega)
  exact okcvt_val k1 (Nat.le_trans k2 (P2_le (by decide)))
theorem sub4_ok {f : Nat} {z : Int} (h : val f = some z) (h0 : 0 ≤ z) (hz : z.natAbs ≤ P2 1074) (q : Nat) (hq : ∀ j, j < q → fcmp .geq .f64 (sub4 f j) 4598175219545276416 = true) : ∃ y : Int, val (sub4 f q) = some y ∧ 0 ≤ y ∧ y.natAbs ≤ P2 1074 := by
  induction q with
  | zero => exact ⟨z, h, h0, hz⟩
  | succ q ih =>
    obtain ⟨y, y1, y2, y3⟩ := ih fun j hj => hq j (by omega)
    have hg := hq q (by omega)
    rw [fcmp_geq y1 val_quart] at hg
    have hg' := of_decide_eq_true hg
    have hp := P2_pos 1072
    obtain ⟨x, x1, x2, x3, _⟩ := sub_P y1 val_quart (B := 1074) (by omega) (by omega)
    exact ⟨x, x1, x3 (by omega), x2⟩
theorem phF_of {f : Nat} {z : Int} (h : val f = some z) (h0 : 0 ≤ z) (hz : z.natAbs ≤ P2 1074) {q : Nat} (hl : q ≤ 8) (hq : ∀ j, j < q → fcmp .geq .f64 (sub4 f j) 4598175219545276416 = true) (hlt : fcmp .geq .f64 (sub4 f q) 4598175219545276416 = false) : PhF f q := by
  obtain ⟨y, y1, y2, y3⟩ := sub4_ok h h0 hz q hq
  have hq' : P2 1072 ≤ P2 1074 := P2_le (by decide)
  obtain ⟨x, x1, x2, _⟩ := sub_P val_quart y1 (B := 1074) (by omega) (by omega)
  have s1 := small_P x1 x2
  have s2 := small_P y1 y3
  exact ⟨hl, hq, hlt, s1.fine, s2.fine, neg_ok s1, neg_ok s2⟩
def phT (r n : Nat) : Nat := Op.negFloat .f64 (fop .quo .f64 (FloatKind.nearest .f64 (r : Int)) (FloatKind.nearest .f64 (n : Int)))
def geqQ (f : Nat) : Bool := fcmp .geq .f64 f 4598175219545276416
def phqF (f : Nat) : Nat := if geqQ f then (if geqQ (sub4 f 1) then (if geqQ (sub4 f 2) then (if geqQ (sub4 f 3) then 4 else 3) else 2) else 1) else 0
def phq (r n : Nat) : Nat := phqF (fr (phT r n))
def ph (r n : Nat) : Nat × Nat := phC (fr (phT r n)) (phq r n)
def phOk (f : Nat) : Bool := phqF f ≤ 4 && (!geqQ (sub4 f (phqF f)))
theorem phq_ge {f : Nat} : ∀ j, j < phqF f → fcmp .geq .f64 (sub4 f j) 4598175219545276416 = true := by
  intro j hj
  unfold phqF at hj
  show geqQ (sub4 f j) = true
  cases h0 : geqQ f <;> simp only [h0, if_true, if_false, Bool.false_eq_true] at hj
  · omega
  cases h1 : geqQ (sub4 f 1) <;> simp only [h1, if_true, if_false, Bool.false_eq_true] at hj
  · obtain rfl : j = 0 := by omega
    exact h0
  cases h2 : geqQ (sub4 f 2) <;> simp only [h2, if_true, if_false, Bool.false_eq_true] at hj
  · rcases (show j = 0 ∨ j = 1 by omega) with rfl | rfl
    · exact h0
    · exact h1
  cases h3 : geqQ (sub4 f 3) <;> simp only [h3, if_true, if_false, Bool.false_eq_true] at hj
  · rcases (show j = 0 ∨ j = 1 ∨ j = 2 by omega) with rfl | rfl | rfl
    · exact h0
    · exact h1
    · exact h2
  · rcases (show j = 0 ∨ j = 1 ∨ j = 2 ∨ j = 3 by omega) with rfl | rfl | rfl | rfl
    · exact h0
    · exact h1
    · exact h2
    · exact h3
theorem ph_all : ∀ n : Fin 17, ∀ r : Fin 16, r.val < n.val → phOk (fr (phT r.val n.val)) = true := by decide +kernel
theorem phT_small {r n : Nat} (hr : r < n) (hn : n ≤ 16) : Small (phT r n) := by
  have hn0 : 0 < n := by omega
  have h52 : ∀ m, m ≤ 16 → m < 2 ^ 52 := fun m hm => by show m < 4503599627370496; omega
  have hp := P2_pos 1074
  obtain ⟨q, q1, q2, _⟩ := quo_P (val_nat (h52 r (by omega))) (val_nat (h52 n hn)) (C := 0) (D := 1074) (by omega) (by omega) (by
    have : n * P2 1074 ≠ 0 := Nat.mul_ne_zero (by omega) (by omega)
    omega) (by
    rw [Int.natAbs_natCast, Int.natAbs_natCast, P2_def 0, Nat.pow_zero, Nat.mul_one]
    exact Nat.mul_le_mul_right _ (by omega))
  exact small_P (val_neg q1) (by rwa [Int.natAbs_neg])
theorem ph_fine {r n : Nat} (hr : r < n) (hn : n ≤ 16) : FineS (phT r n) ∧ PhF (fr (phT r n)) (phq r n) := by
  have hs := phT_small hr hn
  obtain ⟨z, h1, h2, h3⟩ := fr_ok hs
  have ho := ph_all ⟨n, by omega⟩ ⟨r, by omega⟩ hr
  simp only [phOk, Bool.and_eq_true, decide_eq_true_eq, Bool.not_eq_true'] at ho
  exact ⟨hs.fine, phF_of h1 h2 h3 (Nat.le_trans ho.1 (by decide)) phq_ge ho.2⟩
/-! ### the spectrum -/
def speS (xs : List Nat) (n m : Nat) : Nat → Nat × Nat
  | 0 => (0, 0)
  | k + 1 => (fop .add .f32 (speS xs n m k).1 (fop .mul .f32 (ph (k * m % n) n).1 (xs.getD k 0)), fop .add .f32 (speS xs n m k).2 (fop .mul .f32 (ph (k * m % n) n).2 (xs.getD k 0)))
def speTo (xs : List Nat) (m : Nat) : List (Nat × Nat) := (List.range m).map fun j => speS xs xs.length j xs.length
@[simp] theorem speTo_len (xs : List Nat) (m : Nat) : (speTo xs m).length = m := by simp [speTo]
theorem speTo_succ (xs : List Nat) (m : Nat) : speTo xs (m + 1) = speTo xs m ++ [speS xs xs.length m xs.length] := by simp [speTo, List.range_succ]
def cv (x : Nat × Nat) : Value := .complex .f32 x.1 x.2
theorem flat_cx (ys : List (Nat × Nat)) : (ys.map cx).flatten = ys.map cv := by
  induction ys with
  | nil => rfl
  | cons x xs ih => simp [cx, cv] at ih ⊢; exact ih
def mc (xs : List Nat) (m : Nat) : List (Nat × Nat) := speTo xs m ++ List.replicate (xs.length - m) (0, 0)
theorem mc_init (xs : List Nat) : mc xs 0 = List.replicate xs.length (0, 0) := by simp [mc, speTo]
theorem mc_full (xs : List Nat) : mc xs xs.length = speTo xs xs.length := by simp [mc]
theorem mc_len {xs : List Nat} {m : Nat} (h : m ≤ xs.length) : (mc xs m).length = xs.length := by rw [mc, List.length_append, speTo_len, List.length_replicate]; omega
theorem mc_set {xs : List Nat} {m : Nat} {c : Nat × Nat} (h : m < xs.length) : (mc xs m).set m c = speTo xs m ++ c :: List.replicate (xs.length - (m + 1)) (0, 0) := by
  rw [mc, List.set_append_right _ _ (by rw [speTo_len]; omega), speTo_len, Nat.sub_self, show xs.length - m = (xs.length - (m + 1)) + 1 by omega, List.replicate_succ, List.set_cons_zero]
theorem mc_zero {xs : List Nat} {m : Nat} (h : m < xs.length) : (mc xs m).set m (speS xs xs.length m 0) = mc xs m := by
  rw [mc_set h, mc, show xs.length - m = (xs.length - (m + 1)) + 1 by omega, List.replicate_succ]; rfl
theorem mc_step {xs : List Nat} {m : Nat} (h : m < xs.length) : (mc xs m).set m (speS xs xs.length m xs.length) = mc xs (m + 1) := by
  rw [mc_set h, mc, speTo_succ, List.append_assoc]; rfl
theorem mc_rd {s : Sg} {ob T m : Nat} {xs : List Nat} {c : Nat × Nat} (h : m < xs.length) : Rd (sg s ob (T, ((mc xs m).set m c).map cv)) ob (0 + m * 1) (.complex .f32 c.1 c.2) :=
  Rd.of (sg_eq _ _ _) (by rw [show 0 + m * 1 = m by omega, mc_set h, List.getElem?_map, List.getElem?_append_right (by rw [speTo_len]; omega), speTo_len, Nat.sub_self]; rfl)
def specB (xs : List Nat) : Bool := decide (1 ≤ (xs.length : Int) ∧ (xs.length : Int) ≤ 16)
def specF (xs : List Nat) : List (Nat × Nat) := if specB xs = true then speTo xs xs.length else []
theorem specF_no {xs : List Nat} (h : specB xs = false) : specF xs = [] := if_neg (by rw [h]; decide)
theorem specF_yes {xs : List Nat} (h : specB xs = true) : specF xs = speTo xs xs.length := if_pos h
theorem specF_le (xs : List Nat) : (specF xs).length ≤ 1048576 := by
  cases h : specB xs with
  | false => rw [specF_no h]; simp
  | true =>
    rw [specF_yes h, speTo_len]
    have := of_decide_eq_true h
    omega
theorem specPhasW {w0 : World} {σ : Sg} (t q : Nat) (H : FineS t) (hq : PhF (fr t) q) :
    FnV Try.prog w0 109 [(.float .f64 t)] σ (.complex .f32 (phC (fr t) q).1 (phC (fr t) q).2) := by
  unfold FnV
  have hql := hq.le
  refine Fn.of_W 71 Try.func109 rfl Try.ntmps109 rfl ?_
  refine W.seq ?_
  refine W.region ?_
  refine L.v (o_assign (v := (.complex .f32 0 0)) rfl) ?_
  refine L.nil ?_
  refine W.seq ?_
  refine W.seq ?_
  refine W.region ?_
  refine L.v (o_move (v := (.float .f64 t)) rfl) ?_
  refine L.v (o_move (v := (.float .f64 t)) rfl) ?_
  refine L.v (o_farith (k := .f64) (a := t) (b := t) rfl rfl rfl) ?_
  refine L.v (o_fcmp (k := .f64) (a := fop .sub .f64 t t) (b := 0) rfl rfl rfl rfl) ?_
  refine L.nil ?_
  refine W.condF (b := fcmp .neq .f64 (fop .sub .f64 t t) 0) rfl H.nin ?_
  refine W.skip ?_
  refine W.seq ?_
  refine W.seq ?_
  refine W.region ?_
  refine L.v (o_move (v := (.float .f64 t)) rfl) ?_
  refine L.v (o_fcmp (k := .f64) (a := t) (b := 4841369599423283200) rfl rfl rfl rfl) ?_
  refine L.v (o_move (v := (.bool (fcmp .geq .f64 t 4841369599423283200))) rfl) ?_
  refine L.gv (j := 2) (d₁ := 16) (b := fcmp .geq .f64 t 4841369599423283200) rfl rfl rfl H.ge (o_move (v := (.float .f64 t)) rfl) ?_
  refine L.gv (j := 2) (d₁ := 16) (b := fcmp .geq .f64 t 4841369599423283200) rfl rfl rfl H.ge (o_fcmp (k := .f64) (a := t) (b := 14064741636278059008) rfl rfl rfl rfl) ?_
  refine L.v (o_pickF (b := fcmp .geq .f64 t 4841369599423283200) (v := (.bool (fcmp .leq .f64 t 14064741636278059008))) rfl H.ge rfl) ?_
  refine L.nil ?_
  refine W.condF (b := fcmp .leq .f64 t 14064741636278059008) rfl H.le ?_
  refine W.skip ?_
  refine W.seq ?_
  refine W.region ?_
  refine L.v (o_move (v := (.float .f64 t)) rfl) ?_
  refine L.v (o_move (v := (.float .f64 t)) rfl) ?_
  refine L.v (o_cvFI (s := .f64) (a := t) (n := whole t) (by rw [Try.underlying30]; rfl) Try.underlying2 rfl H.num H.int) ?_
  refine L.v (o_cvIF (a := whole t) (by rw [Try.underlying2]; rfl) Try.underlying30 rfl) ?_
  refine L.v (v := (.float .f64 (fr0 t))) (o_farith (k := .f64) (a := t) (b := FloatKind.nearest .f64 (whole t)) rfl rfl rfl) ?_
  refine L.v (o_assign (v := (.float .f64 (fr0 t))) rfl) ?_
  refine L.nil ?_
  refine W.seq ?_
  refine W.seq ?_
  refine W.region ?_
  refine L.v (o_move (v := (.float .f64 (fr0 t))) rfl) ?_
  refine L.v (o_fcmp (k := .f64) (a := fr0 t) (b := 0) rfl rfl rfl rfl) ?_
  refine L.nil ?_
  refine W.join (fun tt ss => FrOk tt [(3, (.float .f64 (fr t)))] ∧ ss = σ) ?_ ?_
  ·
    refine W.cond (b := fcmp .lss .f64 (fr0 t) 0) rfl (fun q3 => ?_) (fun q3 => ?_)
    ·
      refine W.region ?_
      refine L.v (o_move (v := (.float .f64 (fr0 t))) rfl) ?_
      refine L.v (o_farith (k := .f64) (a := fr0 t) (b := 4607182418800017408) rfl rfl rfl) ?_
      refine L.v (o_assign (v := (.float .f64 (fop .add .f64 (fr0 t) 4607182418800017408))) rfl) ?_
      refine L.nil ?_
      exact ⟨⟨(by first | (rw [fr_t (by assumption)]; rfl) | (rw [fr_f (by assumption)]; rfl)), trivial⟩, rfl⟩
    ·
      refine W.skip ?_
      exact ⟨⟨(by first | (rw [fr_t (by assumption)]; rfl) | (rw [fr_f (by assumption)]; rfl)), trivial⟩, rfl⟩
  ·
    rintro t2 s9 ⟨f1, e9⟩
    rw [e9]
    replace f1 : (upd t2 3 (.float .f64 (fr t))) = t2 := frame_ok f1
    rw [← f1]
    clear f1
    refine W.seq ?_
    refine W.region ?_
    refine L.v (o_assign (v := (.int .i64 0)) rfl) ?_
    refine L.nil ?_
    refine W.seq ?_
    refine W.block ?_
    refine W.loop (fun nn tt ss => ∃ (j : Nat), nn = q - j ∧ (j ≤ q) ∧ FrOk tt [(3, (.float .f64 (sub4 (fr t) j))), (4, (.int .i64 (j : Int)))] ∧ σ = ss) _ ⟨0, rfl, (by omega), ⟨rfl, rfl, trivial⟩, rfl⟩ ?_
    rintro _ t4 _ ⟨j, rfl, hj, f5, rfl⟩
    rw [← frame_ok f5]
    show W _ _ _ _ _ (upd (upd t4 3 (.float .f64 (sub4 (fr t) j))) 4 (.int .i64 (j : Int))) _
    refine W.seq ?_
    refine W.seq ?_
    refine W.region ?_
    refine L.v (o_move (v := (.float .f64 (sub4 (fr t) j))) rfl) ?_
    refine L.v (o_fcmp (k := .f64) (a := sub4 (fr t) j) (b := 4598175219545276416) rfl rfl rfl rfl) ?_
    refine L.nil ?_
    refine W.cond (b := fcmp .geq .f64 (sub4 (fr t) j) 4598175219545276416) rfl (fun q6 => ?_) (fun q6 => ?_)
    ·
      refine W.skip ?_
      refine W.block ?_
      refine W.seq ?_
      have hjq : j < q := by rcases Nat.lt_or_ge j q with h9 | h9; exact h9; obtain rfl : q = j := (by omega); rw [hq.lt] at q6; cases q6
      refine W.region ?_
      refine L.v (o_move (v := (.float .f64 (sub4 (fr t) j))) rfl) ?_
      refine L.v (v := (.float .f64 (sub4 (fr t) (j + 1)))) (o_farith (k := .f64) (a := sub4 (fr t) j) (b := 4598175219545276416) rfl rfl rfl) ?_
      refine L.v (o_assign (v := (.float .f64 (sub4 (fr t) (j + 1)))) rfl) ?_
      refine L.nil ?_
      refine W.region ?_
      refine L.v (o_move (v := (.int .i64 (j : Int))) rfl) ?_
      refine L.v (o_iadd (a := (j : Int)) (b := 1) (c := ((j + 1 : Nat) : Int)) rfl rfl (by rw [IntWalk.i64_in _ (by omega)]; try omega)) ?_
      refine L.v (o_assign (v := (.int .i64 (((j + 1 : Nat) : Int)))) rfl) ?_
      refine L.nil ?_
      exact ⟨_, (by omega), j + 1, rfl, (by omega), ⟨rfl, rfl, trivial⟩, rfl⟩
    ·
      refine W.exit ?_
      refine W.seq ?_
      obtain rfl : q = j := by rcases Nat.lt_or_ge j q with h9 | h9; rw [hq.ge j h9] at q6; cases q6; omega
      refine W.region ?_
      refine L.v (o_move (v := (.float .f64 (sub4 (fr t) q))) rfl) ?_
      refine L.v (o_farith (k := .f64) (a := 4598175219545276416) (b := sub4 (fr t) q) rfl rfl rfl) ?_
      refine L.v (v := (.float .f64 (sineV (fr (fop .sub .f64 4598175219545276416 (sub4 (fr t) q)))))) (op_call [(.float .f64 (fop .sub .f64 4598175219545276416 (sub4 (fr t) q)))] Try.call81 rfl (specSineW (fop .sub .f64 4598175219545276416 (sub4 (fr t) q)) (by first | exact hq.c | exact hq.s))) ?_
      refine L.v (o_assign (v := (.float .f64 (sineV (fr (fop .sub .f64 4598175219545276416 (sub4 (fr t) q)))))) rfl) ?_
      refine L.nil ?_
      refine W.seq ?_
      refine W.region ?_
      refine L.v (o_move (v := (.float .f64 (sub4 (fr t) q))) rfl) ?_
      refine L.v (v := (.float .f64 (sineV (fr (sub4 (fr t) q))))) (op_call [(.float .f64 (sub4 (fr t) q))] Try.call81 rfl (specSineW (sub4 (fr t) q) (by first | exact hq.c | exact hq.s))) ?_
      refine L.v (o_assign (v := (.float .f64 (sineV (fr (sub4 (fr t) q))))) rfl) ?_
      refine L.nil ?_
      refine W.seq ?_
      refine W.seq ?_
      refine W.region ?_
      refine L.v (o_move (v := (.int .i64 (q : Int))) rfl) ?_
      refine L.nil ?_
      refine W.block ?_
      refine W.seq ?_
      refine W.region ?_
      refine L.v (o_ieql (a := (q : Int)) (b := 1) rfl rfl rfl) ?_
      refine L.v (o_assign (v := (.bool (decide (((q : Int) : Int) = 1)))) rfl) ?_
      refine L.nil ?_
      refine W.cond (b := decide (((q : Int) : Int) = 1)) rfl (fun q7 => ?_) (fun q7 => ?_)
      ·
        have a8 : ((q : Int) : Int) = 1 := of_decide_eq_true q7
        refine W.seq ?_
        refine W.region ?_
        refine L.v (o_move (v := (.float .f64 (sineV (fr (sub4 (fr t) q))))) rfl) ?_
        refine L.v (o_farith (k := .f64) (a := 0) (b := sineV (fr (sub4 (fr t) q))) rfl rfl rfl) ?_
        refine L.v (v := (.float .f32 (cvt .f64 .f32 (fop .sub .f64 0 (sineV (fr (sub4 (fr t) q))))))) (op_call [(.float .f64 (fop .sub .f64 0 (sineV (fr (sub4 (fr t) q)))))] Try.call80 rfl (narrowC (fop .sub .f64 0 (sineV (fr (sub4 (fr t) q)))) (by first | exact hq.c.ok | exact hq.s.ok | exact hq.okc | exact hq.oks))) ?_
        refine L.v (o_move (v := (.float .f64 (sineV (fr (fop .sub .f64 4598175219545276416 (sub4 (fr t) q)))))) rfl) ?_
        refine L.v (v := (.float .f32 (cvt .f64 .f32 (sineV (fr (fop .sub .f64 4598175219545276416 (sub4 (fr t) q))))))) (op_call [(.float .f64 (sineV (fr (fop .sub .f64 4598175219545276416 (sub4 (fr t) q)))))] Try.call80 rfl (narrowC (sineV (fr (fop .sub .f64 4598175219545276416 (sub4 (fr t) q)))) (by first | exact hq.c.ok | exact hq.s.ok | exact hq.okc | exact hq.oks))) ?_
        refine L.v (o_complex (k := .f32) (a := cvt .f64 .f32 (fop .sub .f64 0 (sineV (fr (sub4 (fr t) q))))) (b := cvt .f64 .f32 (sineV (fr (fop .sub .f64 4598175219545276416 (sub4 (fr t) q))))) rfl rfl) ?_
        refine L.v (o_assign (v := (.complex .f32 (cvt .f64 .f32 (fop .sub .f64 0 (sineV (fr (sub4 (fr t) q))))) (cvt .f64 .f32 (sineV (fr (fop .sub .f64 4598175219545276416 (sub4 (fr t) q))))))) rfl) ?_
        refine L.nil ?_
        refine W.ret ?_
        exact RetK.one σ (.complex .f32 (cvt .f64 .f32 (fop .sub .f64 0 (sineV (fr (sub4 (fr t) q))))) (cvt .f64 .f32 (sineV (fr (fop .sub .f64 4598175219545276416 (sub4 (fr t) q)))))) rfl rfl (Ext.refl _) ⟨by first | (rw [ph_1 (by omega)]; done) | (rw [ph_2 (by omega) (by omega)]; done) | (rw [ph_3 (by omega) (by omega) (by omega)]; done) | (rw [ph_4 (by omega) (by omega) (by omega)]; done), rfl⟩
      ·
        have a9 : ¬ (((q : Int) : Int) = 1) := of_decide_eq_false q7
        refine W.seq ?_
        refine W.region ?_
        refine L.v (o_ieql (a := (q : Int)) (b := 2) rfl rfl rfl) ?_
        refine L.v (o_assign (v := (.bool (decide (((q : Int) : Int) = 2)))) rfl) ?_
        refine L.nil ?_
        refine W.cond (b := decide (((q : Int) : Int) = 2)) rfl (fun q10 => ?_) (fun q10 => ?_)
        ·
          have a11 : ((q : Int) : Int) = 2 := of_decide_eq_true q10
          refine W.seq ?_
          refine W.region ?_
          refine L.v (o_move (v := (.float .f64 (sineV (fr (fop .sub .f64 4598175219545276416 (sub4 (fr t) q)))))) rfl) ?_
          refine L.v (o_farith (k := .f64) (a := 0) (b := sineV (fr (fop .sub .f64 4598175219545276416 (sub4 (fr t) q)))) rfl rfl rfl) ?_
          refine L.v (v := (.float .f32 (cvt .f64 .f32 (fop .sub .f64 0 (sineV (fr (fop .sub .f64 4598175219545276416 (sub4 (fr t) q)))))))) (op_call [(.float .f64 (fop .sub .f64 0 (sineV (fr (fop .sub .f64 4598175219545276416 (sub4 (fr t) q))))))] Try.call80 rfl (narrowC (fop .sub .f64 0 (sineV (fr (fop .sub .f64 4598175219545276416 (sub4 (fr t) q))))) (by first | exact hq.c.ok | exact hq.s.ok | exact hq.okc | exact hq.oks))) ?_
          refine L.v (o_move (v := (.float .f64 (sineV (fr (sub4 (fr t) q))))) rfl) ?_
          refine L.v (o_farith (k := .f64) (a := 0) (b := sineV (fr (sub4 (fr t) q))) rfl rfl rfl) ?_
          refine L.v (v := (.float .f32 (cvt .f64 .f32 (fop .sub .f64 0 (sineV (fr (sub4 (fr t) q))))))) (op_call [(.float .f64 (fop .sub .f64 0 (sineV (fr (sub4 (fr t) q)))))] Try.call80 rfl (narrowC (fop .sub .f64 0 (sineV (fr (sub4 (fr t) q)))) (by first | exact hq.c.ok | exact hq.s.ok | exact hq.okc | exact hq.oks))) ?_
          refine L.v (o_complex (k := .f32) (a := cvt .f64 .f32 (fop .sub .f64 0 (sineV (fr (fop .sub .f64 4598175219545276416 (sub4 (fr t) q)))))) (b := cvt .f64 .f32 (fop .sub .f64 0 (sineV (fr (sub4 (fr t) q))))) rfl rfl) ?_
          refine L.v (o_assign (v := (.complex .f32 (cvt .f64 .f32 (fop .sub .f64 0 (sineV (fr (fop .sub .f64 4598175219545276416 (sub4 (fr t) q)))))) (cvt .f64 .f32 (fop .sub .f64 0 (sineV (fr (sub4 (fr t) q))))))) rfl) ?_
          refine L.nil ?_
          refine W.ret ?_
          exact RetK.one σ (.complex .f32 (cvt .f64 .f32 (fop .sub .f64 0 (sineV (fr (fop .sub .f64 4598175219545276416 (sub4 (fr t) q)))))) (cvt .f64 .f32 (fop .sub .f64 0 (sineV (fr (sub4 (fr t) q)))))) rfl rfl (Ext.refl _) ⟨by first | (rw [ph_1 (by omega)]; done) | (rw [ph_2 (by omega) (by omega)]; done) | (rw [ph_3 (by omega) (by omega) (by omega)]; done) | (rw [ph_4 (by omega) (by omega) (by omega)]; done), rfl⟩
        ·
          have a12 : ¬ (((q : Int) : Int) = 2) := of_decide_eq_false q10
          refine W.seq ?_
          refine W.region ?_
          refine L.v (o_ieql (a := (q : Int)) (b := 3) rfl rfl rfl) ?_
          refine L.v (o_assign (v := (.bool (decide (((q : Int) : Int) = 3)))) rfl) ?_
          refine L.nil ?_
          refine W.cond (b := decide (((q : Int) : Int) = 3)) rfl (fun q13 => ?_) (fun q13 => ?_)
          ·
            have a14 : ((q : Int) : Int) = 3 := of_decide_eq_true q13
            refine W.seq ?_
            refine W.region ?_
            refine L.v (o_move (v := (.float .f64 (sineV (fr (sub4 (fr t) q))))) rfl) ?_
            refine L.v (v := (.float .f32 (cvt .f64 .f32 (sineV (fr (sub4 (fr t) q)))))) (op_call [(.float .f64 (sineV (fr (sub4 (fr t) q))))] Try.call80 rfl (narrowC (sineV (fr (sub4 (fr t) q))) (by first | exact hq.c.ok | exact hq.s.ok | exact hq.okc | exact hq.oks))) ?_
            refine L.v (o_move (v := (.float .f64 (sineV (fr (fop .sub .f64 4598175219545276416 (sub4 (fr t) q)))))) rfl) ?_
            refine L.v (o_farith (k := .f64) (a := 0) (b := sineV (fr (fop .sub .f64 4598175219545276416 (sub4 (fr t) q)))) rfl rfl rfl) ?_
            refine L.v (v := (.float .f32 (cvt .f64 .f32 (fop .sub .f64 0 (sineV (fr (fop .sub .f64 4598175219545276416 (sub4 (fr t) q)))))))) (op_call [(.float .f64 (fop .sub .f64 0 (sineV (fr (fop .sub .f64 4598175219545276416 (sub4 (fr t) q))))))] Try.call80 rfl (narrowC (fop .sub .f64 0 (sineV (fr (fop .sub .f64 4598175219545276416 (sub4 (fr t) q))))) (by first | exact hq.c.ok | exact hq.s.ok | exact hq.okc | exact hq.oks))) ?_
            refine L.v (o_complex (k := .f32) (a := cvt .f64 .f32 (sineV (fr (sub4 (fr t) q)))) (b := cvt .f64 .f32 (fop .sub .f64 0 (sineV (fr (fop .sub .f64 4598175219545276416 (sub4 (fr t) q)))))) rfl rfl) ?_
            refine L.v (o_assign (v := (.complex .f32 (cvt .f64 .f32 (sineV (fr (sub4 (fr t) q)))) (cvt .f64 .f32 (fop .sub .f64 0 (sineV (fr (fop .sub .f64 4598175219545276416 (sub4 (fr t) q)))))))) rfl) ?_
            refine L.nil ?_
            refine W.ret ?_
            exact RetK.one σ (.complex .f32 (cvt .f64 .f32 (sineV (fr (sub4 (fr t) q)))) (cvt .f64 .f32 (fop .sub .f64 0 (sineV (fr (fop .sub .f64 4598175219545276416 (sub4 (fr t) q))))))) rfl rfl (Ext.refl _) ⟨by first | (rw [ph_1 (by omega)]; done) | (rw [ph_2 (by omega) (by omega)]; done) | (rw [ph_3 (by omega) (by omega) (by omega)]; done) | (rw [ph_4 (by omega) (by omega) (by omega)]; done), rfl⟩
          ·
            have a15 : ¬ (((q : Int) : Int) = 3) := of_decide_eq_false q13
            refine W.skip ?_
            refine W.seq ?_
            refine W.region ?_
            refine L.v (o_move (v := (.float .f64 (sineV (fr (fop .sub .f64 4598175219545276416 (sub4 (fr t) q)))))) rfl) ?_
            refine L.v (v := (.float .f32 (cvt .f64 .f32 (sineV (fr (fop .sub .f64 4598175219545276416 (sub4 (fr t) q))))))) (op_call [(.float .f64 (sineV (fr (fop .sub .f64 4598175219545276416 (sub4 (fr t) q)))))] Try.call80 rfl (narrowC (sineV (fr (fop .sub .f64 4598175219545276416 (sub4 (fr t) q)))) (by first | exact hq.c.ok | exact hq.s.ok | exact hq.okc | exact hq.oks))) ?_
            refine L.v (o_move (v := (.float .f64 (sineV (fr (sub4 (fr t) q))))) rfl) ?_
            refine L.v (v := (.float .f32 (cvt .f64 .f32 (sineV (fr (sub4 (fr t) q)))))) (op_call [(.float .f64 (sineV (fr (sub4 (fr t) q))))] Try.call80 rfl (narrowC (sineV (fr (sub4 (fr t) q))) (by first | exact hq.c.ok | exact hq.s.ok | exact hq.okc | exact hq.oks))) ?_
            refine L.v (o_complex (k := .f32) (a := cvt .f64 .f32 (sineV (fr (fop .sub .f64 4598175219545276416 (sub4 (fr t) q))))) (b := cvt .f64 .f32 (sineV (fr (sub4 (fr t) q)))) rfl rfl) ?_
            refine L.v (o_assign (v := (.complex .f32 (cvt .f64 .f32 (sineV (fr (fop .sub .f64 4598175219545276416 (sub4 (fr t) q))))) (cvt .f64 .f32 (sineV (fr (sub4 (fr t) q)))))) rfl) ?_
            refine L.nil ?_
            refine W.ret ?_
            exact RetK.one σ (.complex .f32 (cvt .f64 .f32 (sineV (fr (fop .sub .f64 4598175219545276416 (sub4 (fr t) q))))) (cvt .f64 .f32 (sineV (fr (sub4 (fr t) q))))) rfl rfl (Ext.refl _) ⟨by first | (rw [ph_1 (by omega)]; done) | (rw [ph_2 (by omega) (by omega)]; done) | (rw [ph_3 (by omega) (by omega) (by omega)]; done) | (rw [ph_4 (by omega) (by omega) (by omega)]; done), rfl⟩

theorem implPhasW {w0 : World} {σ : Sg} (t q : Nat) (H : FineS t) (hq : PhF (fr t) q) :
    FnV Try.prog w0 93 [(.float .f64 t)] σ (.complex .f32 (phC (fr t) q).1 (phC (fr t) q).2) := by
  unfold FnV
  have hql := hq.le
  refine Fn.of_W 54 Try.func93 rfl Try.ntmps93 rfl ?_
  refine W.seq ?_
  refine W.region ?_
  refine L.v (o_assign (v := (.complex .f32 0 0)) rfl) ?_
  refine L.nil ?_
  refine W.seq ?_
  refine W.seq ?_
  refine W.region ?_
  refine L.v (o_move (v := (.float .f64 t)) rfl) ?_
  refine L.v (v := (.bool (fcmp .eql .f64 (fop .sub .f64 t t) 0))) (op_call [(.float .f64 t)] Try.call83 rfl (isFiniteC t)) ?_
  refine L.v (o_not (b := fcmp .eql .f64 (fop .sub .f64 t t) 0) rfl rfl) ?_
  refine L.nil ?_
  refine W.condF (b := !(fcmp .eql .f64 (fop .sub .f64 t t) 0)) rfl (nb_t H.fin) ?_
  refine W.skip ?_
  refine W.seq ?_
  refine W.seq ?_
  refine W.region ?_
  refine L.v (o_move (v := (.float .f64 t)) rfl) ?_
  refine L.v (v := (.float .f64 (absF t))) (op_call [(.float .f64 t)] Try.call85 rfl (absC t)) ?_
  refine L.v (o_fcmp (k := .f64) (a := absF t) (b := 4841369599423283200) rfl rfl rfl rfl) ?_
  refine L.nil ?_
  refine W.condF (b := fcmp .geq .f64 (absF t) 4841369599423283200) rfl H.abs ?_
  refine W.skip ?_
  refine W.seq ?_
  refine W.region ?_
  refine L.v (o_move (v := (.float .f64 t)) rfl) ?_
  refine L.v (v := (.float .f64 (fr t))) (op_call [(.float .f64 t)] Try.call108 rfl (fractionC t H)) ?_
  refine L.v (o_assign (v := (.float .f64 (fr t))) rfl) ?_
  refine L.nil ?_
  refine W.seq ?_
  refine W.region ?_
  refine L.v (o_assign (v := (.int .i64 0)) rfl) ?_
  refine L.nil ?_
  refine W.seq ?_
  refine W.block ?_
  refine W.loop (fun nn tt ss => ∃ (j : Nat), nn = q - j ∧ (j ≤ q) ∧ FrOk tt [(4, (.float .f64 (sub4 (fr t) j))), (5, (.int .i64 (j : Int)))] ∧ σ = ss) _ ⟨0, rfl, (by omega), ⟨rfl, rfl, trivial⟩, rfl⟩ ?_
  rintro _ t1 _ ⟨j, rfl, hj, f2, rfl⟩
  rw [← frame_ok f2]
  show W _ _ _ _ _ (upd (upd t1 4 (.float .f64 (sub4 (fr t) j))) 5 (.int .i64 (j : Int))) _
  refine W.seq ?_
  refine W.seq ?_
  refine W.region ?_
  refine L.v (o_move (v := (.float .f64 (sub4 (fr t) j))) rfl) ?_
  refine L.v (o_fcmp (k := .f64) (a := sub4 (fr t) j) (b := 4598175219545276416) rfl rfl rfl rfl) ?_
  refine L.nil ?_
  refine W.cond (b := fcmp .geq .f64 (sub4 (fr t) j) 4598175219545276416) rfl (fun q3 => ?_) (fun q3 => ?_)
  ·
    refine W.skip ?_
    refine W.block ?_
    refine W.seq ?_
    have hjq : j < q := by rcases Nat.lt_or_ge j q with h9 | h9; exact h9; obtain rfl : q = j := (by omega); rw [hq.lt] at q3; cases q3
    refine W.region ?_
    refine L.v (o_move (v := (.float .f64 (sub4 (fr t) j))) rfl) ?_
    refine L.v (v := (.float .f64 (sub4 (fr t) (j + 1)))) (o_farith (k := .f64) (a := sub4 (fr t) j) (b := 4598175219545276416) rfl rfl rfl) ?_
    refine L.v (o_assign (v := (.float .f64 (sub4 (fr t) (j + 1)))) rfl) ?_
    refine L.nil ?_
    refine W.region ?_
    refine L.v (o_move (v := (.int .i64 (j : Int))) rfl) ?_
    refine L.v (o_iadd (a := (j : Int)) (b := 1) (c := ((j + 1 : Nat) : Int)) rfl rfl (by rw [IntWalk.i64_in _ (by omega)]; try omega)) ?_
    refine L.v (o_assign (v := (.int .i64 (((j + 1 : Nat) : Int)))) rfl) ?_
    refine L.nil ?_
    exact ⟨_, (by omega), j + 1, rfl, (by omega), ⟨rfl, rfl, trivial⟩, rfl⟩
  ·
    refine W.exit ?_
    refine W.seq ?_
    obtain rfl : q = j := by rcases Nat.lt_or_ge j q with h9 | h9; rw [hq.ge j h9] at q3; cases q3; omega
    refine W.region ?_
    refine L.v (o_move (v := (.float .f64 (sub4 (fr t) q))) rfl) ?_
    refine L.v (o_farith (k := .f64) (a := 4598175219545276416) (b := sub4 (fr t) q) rfl rfl rfl) ?_
    refine L.v (v := (.float .f64 (sineV (fr (fop .sub .f64 4598175219545276416 (sub4 (fr t) q)))))) (op_call [(.float .f64 (fop .sub .f64 4598175219545276416 (sub4 (fr t) q)))] Try.call86 rfl (implSineW (fop .sub .f64 4598175219545276416 (sub4 (fr t) q)) (by first | exact hq.c | exact hq.s))) ?_
    refine L.v (o_move (v := (.float .f64 (sub4 (fr t) q))) rfl) ?_
    refine L.v (v := (.float .f64 (sineV (fr (sub4 (fr t) q))))) (op_call [(.float .f64 (sub4 (fr t) q))] Try.call86 rfl (implSineW (sub4 (fr t) q) (by first | exact hq.c | exact hq.s))) ?_
    refine L.v (o_assign (v := (.float .f64 (sineV (fr (fop .sub .f64 4598175219545276416 (sub4 (fr t) q)))))) rfl) ?_
    refine L.v (o_assign (v := (.float .f64 (sineV (fr (sub4 (fr t) q))))) rfl) ?_
    refine L.nil ?_
    refine W.seq ?_
    refine W.seq ?_
    refine W.region ?_
    refine L.v (o_move (v := (.int .i64 (q : Int))) rfl) ?_
    refine L.nil ?_
    refine W.block ?_
    refine W.seq ?_
    refine W.region ?_
    refine L.v (o_ieql (a := (q : Int)) (b := 1) rfl rfl rfl) ?_
    refine L.v (o_assign (v := (.bool (decide (((q : Int) : Int) = 1)))) rfl) ?_
    refine L.nil ?_
    refine W.cond (b := decide (((q : Int) : Int) = 1)) rfl (fun q4 => ?_) (fun q4 => ?_)
    ·
      have a5 : ((q : Int) : Int) = 1 := of_decide_eq_true q4
      refine W.region ?_
      refine L.v (o_move (v := (.float .f64 (sineV (fr (sub4 (fr t) q))))) rfl) ?_
      refine L.v (o_farith (k := .f64) (a := 0) (b := sineV (fr (sub4 (fr t) q))) rfl rfl rfl) ?_
      refine L.v (o_move (v := (.float .f64 (sineV (fr (fop .sub .f64 4598175219545276416 (sub4 (fr t) q)))))) rfl) ?_
      refine L.v (o_assign (v := (.float .f64 (fop .sub .f64 0 (sineV (fr (sub4 (fr t) q)))))) rfl) ?_
      refine L.v (o_assign (v := (.float .f64 (sineV (fr (fop .sub .f64 4598175219545276416 (sub4 (fr t) q)))))) rfl) ?_
      refine L.nil ?_
      refine W.seq ?_
      refine W.region ?_
      refine L.v (o_move (v := (.float .f64 (fop .sub .f64 0 (sineV (fr (sub4 (fr t) q)))))) rfl) ?_
      refine L.v (o_cvFF (s := .f64) (d := .f32) (a := fop .sub .f64 0 (sineV (fr (sub4 (fr t) q)))) (by rw [Try.underlying30]; rfl) Try.underlying24 rfl (by first | exact hq.c.ok | exact hq.s.ok | exact hq.okc | exact hq.oks)) ?_
      refine L.v (o_move (v := (.float .f64 (sineV (fr (fop .sub .f64 4598175219545276416 (sub4 (fr t) q)))))) rfl) ?_
      refine L.v (o_cvFF (s := .f64) (d := .f32) (a := sineV (fr (fop .sub .f64 4598175219545276416 (sub4 (fr t) q)))) (by rw [Try.underlying30]; rfl) Try.underlying24 rfl (by first | exact hq.c.ok | exact hq.s.ok | exact hq.okc | exact hq.oks)) ?_
      refine L.v (o_complex (k := .f32) (a := cvt .f64 .f32 (fop .sub .f64 0 (sineV (fr (sub4 (fr t) q))))) (b := cvt .f64 .f32 (sineV (fr (fop .sub .f64 4598175219545276416 (sub4 (fr t) q))))) rfl rfl) ?_
      refine L.v (o_assign (v := (.complex .f32 (cvt .f64 .f32 (fop .sub .f64 0 (sineV (fr (sub4 (fr t) q))))) (cvt .f64 .f32 (sineV (fr (fop .sub .f64 4598175219545276416 (sub4 (fr t) q))))))) rfl) ?_
      refine L.nil ?_
      refine W.ret ?_
      exact RetK.one σ (.complex .f32 (cvt .f64 .f32 (fop .sub .f64 0 (sineV (fr (sub4 (fr t) q))))) (cvt .f64 .f32 (sineV (fr (fop .sub .f64 4598175219545276416 (sub4 (fr t) q)))))) rfl rfl (Ext.refl _) ⟨by first | (rw [ph_1 (by omega)]; done) | (rw [ph_2 (by omega) (by omega)]; done) | (rw [ph_3 (by omega) (by omega) (by omega)]; done) | (rw [ph_4 (by omega) (by omega) (by omega)]; done), rfl⟩
    ·
      have a6 : ¬ (((q : Int) : Int) = 1) := of_decide_eq_false q4
      refine W.seq ?_
      refine W.region ?_
      refine L.v (o_ieql (a := (q : Int)) (b := 2) rfl rfl rfl) ?_
      refine L.v (o_assign (v := (.bool (decide (((q : Int) : Int) = 2)))) rfl) ?_
      refine L.nil ?_
      refine W.cond (b := decide (((q : Int) : Int) = 2)) rfl (fun q7 => ?_) (fun q7 => ?_)
      ·
        have a8 : ((q : Int) : Int) = 2 := of_decide_eq_true q7
        refine W.region ?_
        refine L.v (o_move (v := (.float .f64 (sineV (fr (fop .sub .f64 4598175219545276416 (sub4 (fr t) q)))))) rfl) ?_
        refine L.v (o_farith (k := .f64) (a := 0) (b := sineV (fr (fop .sub .f64 4598175219545276416 (sub4 (fr t) q)))) rfl rfl rfl) ?_
        refine L.v (o_move (v := (.float .f64 (sineV (fr (sub4 (fr t) q))))) rfl) ?_
        refine L.v (o_farith (k := .f64) (a := 0) (b := sineV (fr (sub4 (fr t) q))) rfl rfl rfl) ?_
        refine L.v (o_assign (v := (.float .f64 (fop .sub .f64 0 (sineV (fr (fop .sub .f64 4598175219545276416 (sub4 (fr t) q))))))) rfl) ?_
        refine L.v (o_assign (v := (.float .f64 (fop .sub .f64 0 (sineV (fr (sub4 (fr t) q)))))) rfl) ?_
        refine L.nil ?_
        refine W.seq ?_
        refine W.region ?_
        refine L.v (o_move (v := (.float .f64 (fop .sub .f64 0 (sineV (fr (fop .sub .f64 4598175219545276416 (sub4 (fr t) q))))))) rfl) ?_
        refine L.v (o_cvFF (s := .f64) (d := .f32) (a := fop .sub .f64 0 (sineV (fr (fop .sub .f64 4598175219545276416 (sub4 (fr t) q))))) (by rw [Try.underlying30]; rfl) Try.underlying24 rfl (by first | exact hq.c.ok | exact hq.s.ok | exact hq.okc | exact hq.oks)) ?_
        refine L.v (o_move (v := (.float .f64 (fop .sub .f64 0 (sineV (fr (sub4 (fr t) q)))))) rfl) ?_
        refine L.v (o_cvFF (s := .f64) (d := .f32) (a := fop .sub .f64 0 (sineV (fr (sub4 (fr t) q)))) (by rw [Try.underlying30]; rfl) Try.underlying24 rfl (by first | exact hq.c.ok | exact hq.s.ok | exact hq.okc | exact hq.oks)) ?_
        refine L.v (o_complex (k := .f32) (a := cvt .f64 .f32 (fop .sub .f64 0 (sineV (fr (fop .sub .f64 4598175219545276416 (sub4 (fr t) q)))))) (b := cvt .f64 .f32 (fop .sub .f64 0 (sineV (fr (sub4 (fr t) q))))) rfl rfl) ?_
        refine L.v (o_assign (v := (.complex .f32 (cvt .f64 .f32 (fop .sub .f64 0 (sineV (fr (fop .sub .f64 4598175219545276416 (sub4 (fr t) q)))))) (cvt .f64 .f32 (fop .sub .f64 0 (sineV (fr (sub4 (fr t) q))))))) rfl) ?_
        refine L.nil ?_
        refine W.ret ?_
        exact RetK.one σ (.complex .f32 (cvt .f64 .f32 (fop .sub .f64 0 (sineV (fr (fop .sub .f64 4598175219545276416 (sub4 (fr t) q)))))) (cvt .f64 .f32 (fop .sub .f64 0 (sineV (fr (sub4 (fr t) q)))))) rfl rfl (Ext.refl _) ⟨by first | (rw [ph_1 (by omega)]; done) | (rw [ph_2 (by omega) (by omega)]; done) | (rw [ph_3 (by omega) (by omega) (by omega)]; done) | (rw [ph_4 (by omega) (by omega) (by omega)]; done), rfl⟩
      ·
        have a9 : ¬ (((q : Int) : Int) = 2) := of_decide_eq_false q7
        refine W.seq ?_
        refine W.region ?_
        refine L.v (o_ieql (a := (q : Int)) (b := 3) rfl rfl rfl) ?_
        refine L.v (o_assign (v := (.bool (decide (((q : Int) : Int) = 3)))) rfl) ?_
        refine L.nil ?_
        refine W.cond (b := decide (((q : Int) : Int) = 3)) rfl (fun q10 => ?_) (fun q10 => ?_)
        ·
          have a11 : ((q : Int) : Int) = 3 := of_decide_eq_true q10
          refine W.region ?_
          refine L.v (o_move (v := (.float .f64 (sineV (fr (sub4 (fr t) q))))) rfl) ?_
          refine L.v (o_move (v := (.float .f64 (sineV (fr (fop .sub .f64 4598175219545276416 (sub4 (fr t) q)))))) rfl) ?_
          refine L.v (o_farith (k := .f64) (a := 0) (b := sineV (fr (fop .sub .f64 4598175219545276416 (sub4 (fr t) q)))) rfl rfl rfl) ?_
          refine L.v (o_assign (v := (.float .f64 (sineV (fr (sub4 (fr t) q))))) rfl) ?_
          refine L.v (o_assign (v := (.float .f64 (fop .sub .f64 0 (sineV (fr (fop .sub .f64 4598175219545276416 (sub4 (fr t) q))))))) rfl) ?_
          refine L.nil ?_
          refine W.seq ?_
          refine W.region ?_
          refine L.v (o_move (v := (.float .f64 (sineV (fr (sub4 (fr t) q))))) rfl) ?_
          refine L.v (o_cvFF (s := .f64) (d := .f32) (a := sineV (fr (sub4 (fr t) q))) (by rw [Try.underlying30]; rfl) Try.underlying24 rfl (by first | exact hq.c.ok | exact hq.s.ok | exact hq.okc | exact hq.oks)) ?_
          refine L.v (o_move (v := (.float .f64 (fop .sub .f64 0 (sineV (fr (fop .sub .f64 4598175219545276416 (sub4 (fr t) q))))))) rfl) ?_
          refine L.v (o_cvFF (s := .f64) (d := .f32) (a := fop .sub .f64 0 (sineV (fr (fop .sub .f64 4598175219545276416 (sub4 (fr t) q))))) (by rw [Try.underlying30]; rfl) Try.underlying24 rfl (by first | exact hq.c.ok | exact hq.s.ok | exact hq.okc | exact hq.oks)) ?_
          refine L.v (o_complex (k := .f32) (a := cvt .f64 .f32 (sineV (fr (sub4 (fr t) q)))) (b := cvt .f64 .f32 (fop .sub .f64 0 (sineV (fr (fop .sub .f64 4598175219545276416 (sub4 (fr t) q)))))) rfl rfl) ?_
          refine L.v (o_assign (v := (.complex .f32 (cvt .f64 .f32 (sineV (fr (sub4 (fr t) q)))) (cvt .f64 .f32 (fop .sub .f64 0 (sineV (fr (fop .sub .f64 4598175219545276416 (sub4 (fr t) q)))))))) rfl) ?_
          refine L.nil ?_
          refine W.ret ?_
          exact RetK.one σ (.complex .f32 (cvt .f64 .f32 (sineV (fr (sub4 (fr t) q)))) (cvt .f64 .f32 (fop .sub .f64 0 (sineV (fr (fop .sub .f64 4598175219545276416 (sub4 (fr t) q))))))) rfl rfl (Ext.refl _) ⟨by first | (rw [ph_1 (by omega)]; done) | (rw [ph_2 (by omega) (by omega)]; done) | (rw [ph_3 (by omega) (by omega) (by omega)]; done) | (rw [ph_4 (by omega) (by omega) (by omega)]; done), rfl⟩
        ·
          have a12 : ¬ (((q : Int) : Int) = 3) := of_decide_eq_false q10
          refine W.skip ?_
          refine W.seq ?_
          refine W.region ?_
          refine L.v (o_move (v := (.float .f64 (sineV (fr (fop .sub .f64 4598175219545276416 (sub4 (fr t) q)))))) rfl) ?_
          refine L.v (o_cvFF (s := .f64) (d := .f32) (a := sineV (fr (fop .sub .f64 4598175219545276416 (sub4 (fr t) q)))) (by rw [Try.underlying30]; rfl) Try.underlying24 rfl (by first | exact hq.c.ok | exact hq.s.ok | exact hq.okc | exact hq.oks)) ?_
          refine L.v (o_move (v := (.float .f64 (sineV (fr (sub4 (fr t) q))))) rfl) ?_
          refine L.v (o_cvFF (s := .f64) (d := .f32) (a := sineV (fr (sub4 (fr t) q))) (by rw [Try.underlying30]; rfl) Try.underlying24 rfl (by first | exact hq.c.ok | exact hq.s.ok | exact hq.okc | exact hq.oks)) ?_
          refine L.v (o_complex (k := .f32) (a := cvt .f64 .f32 (sineV (fr (fop .sub .f64 4598175219545276416 (sub4 (fr t) q))))) (b := cvt .f64 .f32 (sineV (fr (sub4 (fr t) q)))) rfl rfl) ?_
          refine L.v (o_assign (v := (.complex .f32 (cvt .f64 .f32 (sineV (fr (fop .sub .f64 4598175219545276416 (sub4 (fr t) q))))) (cvt .f64 .f32 (sineV (fr (sub4 (fr t) q)))))) rfl) ?_
          refine L.nil ?_
          refine W.ret ?_
          exact RetK.one σ (.complex .f32 (cvt .f64 .f32 (sineV (fr (fop .sub .f64 4598175219545276416 (sub4 (fr t) q))))) (cvt .f64 .f32 (sineV (fr (sub4 (fr t) q))))) rfl rfl (Ext.refl _) ⟨by first | (rw [ph_1 (by omega)]; done) | (rw [ph_2 (by omega) (by omega)]; done) | (rw [ph_3 (by omega) (by omega) (by omega)]; done) | (rw [ph_4 (by omega) (by omega) (by omega)]; done), rfl⟩

theorem specPhas {w0 : World} {σ : Sg} (r n : Nat) (hr : r < n) (hn : n ≤ 16) : FnV Try.prog w0 109 [.float .f64 (phT r n)] σ (.complex .f32 (ph r n).1 (ph r n).2) :=
  specPhasW (phT r n) (phq r n) (ph_fine hr hn).1 (ph_fine hr hn).2

theorem implPhas {w0 : World} {σ : Sg} (r n : Nat) (hr : r < n) (hn : n ≤ 16) : FnV Try.prog w0 93 [.float .f64 (phT r n)] σ (.complex .f32 (ph r n).1 (ph r n).2) :=
  implPhasW (phT r n) (phq r n) (ph_fine hr hn).1 (ph_fine hr hn).2

theorem specPhas8 {w0 : World} {σ : Sg} (k m n : Nat) (hn : 1 ≤ n ∧ n ≤ 16) (hk : k < n) (hm : m < n) :
    FnV Try.prog w0 89 [(.int .i64 ↑k), (.int .i64 ↑m), (.int .i64 ↑n), (.bool false)] σ (.complex .f32 (ph (k * m % n) n).1 (ph (k * m % n) n).2) := by
  unfold FnV
  have hkm := Nat.mul_le_mul (show k ≤ 16 by omega) (show m ≤ 16 by omega)
  refine Fn.of_W 25 Try.func89 rfl Try.ntmps89 rfl ?_
  refine W.seq ?_
  refine W.region ?_
  refine L.v (o_assign (v := (.complex .f32 0 0)) rfl) ?_
  refine L.nil ?_
  refine W.seq ?_
  refine W.region ?_
  refine L.v (o_move (v := (.int .i64 (k : Int))) rfl) ?_
  refine L.v (o_move (v := (.int .i64 (m : Int))) rfl) ?_
  refine L.v (o_imul (a := (k : Int)) (b := (m : Int)) (c := ((k * m : Nat) : Int)) rfl rfl (by rw [← Int.natCast_mul, IntWalk.i64_in _ (by omega)])) ?_
  refine L.v (o_move (v := (.int .i64 (n : Int))) rfl) ?_
  refine L.v (o_irem (a := ((k * m : Nat) : Int)) (b := (n : Int)) (c := ((k * m % n : Nat) : Int)) rfl rfl (by omega) (by rw [← Int.ofNat_tmod])) ?_
  refine L.v (o_cvIF (a := ((k * m % n : Nat) : Int)) (by rw [Try.underlying2]; rfl) Try.underlying30 rfl) ?_
  refine L.v (o_move (v := (.int .i64 (n : Int))) rfl) ?_
  refine L.v (o_cvIF (a := (n : Int)) (by rw [Try.underlying2]; rfl) Try.underlying30 rfl) ?_
  refine L.v (o_farith (k := .f64) (a := FloatKind.nearest .f64 (((k * m % n : Nat) : Int))) (b := FloatKind.nearest .f64 (n : Int)) rfl rfl rfl) ?_
  refine L.v (o_assign (v := (.float .f64 (fop .quo .f64 (FloatKind.nearest .f64 (((k * m % n : Nat) : Int))) (FloatKind.nearest .f64 (n : Int))))) rfl) ?_
  refine L.nil ?_
  refine W.seq ?_
  refine W.seq ?_
  refine W.region ?_
  refine L.v (o_move (v := (.bool false)) rfl) ?_
  refine L.nil ?_
  refine W.condF (b := false) rfl rfl ?_
  refine W.skip ?_
  refine W.seq ?_
  refine W.region ?_
  refine L.v (o_move (v := (.float .f64 (fop .quo .f64 (FloatKind.nearest .f64 (((k * m % n : Nat) : Int))) (FloatKind.nearest .f64 (n : Int))))) rfl) ?_
  refine L.v (o_fneg (k := .f64) (a := fop .quo .f64 (FloatKind.nearest .f64 (((k * m % n : Nat) : Int))) (FloatKind.nearest .f64 (n : Int))) rfl) ?_
  refine L.v (v := (.complex .f32 ((ph (k * m % n) n).1) ((ph (k * m % n) n).2))) (op_call [(.float .f64 (Op.negFloat .f64 (fop .quo .f64 (FloatKind.nearest .f64 (((k * m % n : Nat) : Int))) (FloatKind.nearest .f64 (n : Int)))))] Try.call109 rfl (specPhas (k * m % n) n (Nat.mod_lt _ (by omega)) (by omega))) ?_
  refine L.v (o_assign (v := (.complex .f32 ((ph (k * m % n) n).1) ((ph (k * m % n) n).2))) rfl) ?_
  refine L.nil ?_
  refine W.ret ?_
  exact RetK.one σ (.complex .f32 ((ph (k * m % n) n).1) ((ph (k * m % n) n).2)) rfl rfl (Ext.refl _) ⟨rfl, rfl⟩

theorem implTurns {w0 : World} {σ : Sg} (k m n : Nat) (hn : 1 ≤ n ∧ n ≤ 16) (hk : k < n) (hm : m < n) :
    FnV Try.prog w0 94 [(.int .i64 ↑k), (.int .i64 ↑m), (.int .i64 ↑n)] σ (.float .f64 (fop .quo .f64 (FloatKind.nearest .f64 ((k * m % n : Nat) : Int)) (FloatKind.nearest .f64 (n : Int)))) := by
  unfold FnV
  have hkm := Nat.mul_le_mul (show k ≤ 16 by omega) (show m ≤ 16 by omega)
  refine Fn.of_W 16 Try.func94 rfl Try.ntmps94 rfl ?_
  refine W.seq ?_
  refine W.region ?_
  refine L.v (o_assign (v := (.float .f64 0)) rfl) ?_
  refine L.nil ?_
  refine W.seq ?_
  refine W.region ?_
  refine L.v (o_move (v := (.int .i64 (k : Int))) rfl) ?_
  refine L.v (o_move (v := (.int .i64 (m : Int))) rfl) ?_
  refine L.v (o_imul (a := (k : Int)) (b := (m : Int)) (c := ((k * m : Nat) : Int)) rfl rfl (by rw [← Int.natCast_mul, IntWalk.i64_in _ (by omega)])) ?_
  refine L.v (o_move (v := (.int .i64 (n : Int))) rfl) ?_
  refine L.v (o_irem (a := ((k * m : Nat) : Int)) (b := (n : Int)) (c := ((k * m % n : Nat) : Int)) rfl rfl (by omega) (by rw [← Int.ofNat_tmod])) ?_
  refine L.v (o_cvIF (a := ((k * m % n : Nat) : Int)) (by rw [Try.underlying3]; rfl) Try.underlying30 rfl) ?_
  refine L.v (o_move (v := (.int .i64 (n : Int))) rfl) ?_
  refine L.v (o_cvIF (a := (n : Int)) (by rw [Try.underlying3]; rfl) Try.underlying30 rfl) ?_
  refine L.v (o_farith (k := .f64) (a := FloatKind.nearest .f64 (((k * m % n : Nat) : Int))) (b := FloatKind.nearest .f64 (n : Int)) rfl rfl rfl) ?_
  refine L.v (o_assign (v := (.float .f64 (fop .quo .f64 (FloatKind.nearest .f64 (((k * m % n : Nat) : Int))) (FloatKind.nearest .f64 (n : Int))))) rfl) ?_
  refine L.nil ?_
  refine W.ret ?_
  exact RetK.one σ (.float .f64 (fop .quo .f64 (FloatKind.nearest .f64 (((k * m % n : Nat) : Int))) (FloatKind.nearest .f64 (n : Int)))) rfl rfl (Ext.refl _) ⟨rfl, rfl⟩

theorem specScale {w0 : World} {σ : Sg} (a b x : Nat) :
    FnV Try.prog w0 88 [(.complex .f32 a b), (.float .f32 x)] σ (.complex .f32 (fop .mul .f32 a x) (fop .mul .f32 b x)) := by
  unfold FnV
  refine Fn.of_W 14 Try.func88 rfl Try.ntmps88 rfl ?_
  refine W.seq ?_
  refine W.region ?_
  refine L.v (o_assign (v := (.complex .f32 0 0)) rfl) ?_
  refine L.nil ?_
  refine W.seq ?_
  refine W.region ?_
  refine L.v (o_move (v := (.complex .f32 a b)) rfl) ?_
  refine L.v (o_real (k := .f32) (a := a) (b := b) rfl) ?_
  refine L.v (o_move (v := (.float .f32 x)) rfl) ?_
  refine L.v (o_farith (k := .f32) (a := a) (b := x) rfl rfl rfl) ?_
  refine L.v (o_move (v := (.complex .f32 a b)) rfl) ?_
  refine L.v (o_imag (k := .f32) (a := a) (b := b) rfl) ?_
  refine L.v (o_move (v := (.float .f32 x)) rfl) ?_
  refine L.v (o_farith (k := .f32) (a := b) (b := x) rfl rfl rfl) ?_
  refine L.v (o_complex (k := .f32) (a := fop .mul .f32 a x) (b := fop .mul .f32 b x) rfl rfl) ?_
  refine L.v (o_assign (v := (.complex .f32 (fop .mul .f32 a x) (fop .mul .f32 b x))) rfl) ?_
  refine L.nil ?_
  refine W.ret ?_
  exact RetK.one σ (.complex .f32 (fop .mul .f32 a x) (fop .mul .f32 b x)) rfl rfl (Ext.refl _) ⟨rfl, rfl⟩

theorem implScale {w0 : World} {σ : Sg} (a b x : Nat) :
    FnV Try.prog w0 92 [(.complex .f32 a b), (.float .f32 x)] σ (.complex .f32 (fop .mul .f32 a x) (fop .mul .f32 b x)) := by
  unfold FnV
  refine Fn.of_W 14 Try.func92 rfl Try.ntmps92 rfl ?_
  refine W.seq ?_
  refine W.region ?_
  refine L.v (o_assign (v := (.complex .f32 0 0)) rfl) ?_
  refine L.nil ?_
  refine W.seq ?_
  refine W.region ?_
  refine L.v (o_move (v := (.complex .f32 a b)) rfl) ?_
  refine L.v (o_real (k := .f32) (a := a) (b := b) rfl) ?_
  refine L.v (o_move (v := (.float .f32 x)) rfl) ?_
  refine L.v (o_farith (k := .f32) (a := a) (b := x) rfl rfl rfl) ?_
  refine L.v (o_move (v := (.complex .f32 a b)) rfl) ?_
  refine L.v (o_imag (k := .f32) (a := a) (b := b) rfl) ?_
  refine L.v (o_move (v := (.float .f32 x)) rfl) ?_
  refine L.v (o_farith (k := .f32) (a := b) (b := x) rfl rfl rfl) ?_
  refine L.v (o_complex (k := .f32) (a := fop .mul .f32 a x) (b := fop .mul .f32 b x) rfl rfl) ?_
  refine L.v (o_assign (v := (.complex .f32 (fop .mul .f32 a x) (fop .mul .f32 b x))) rfl) ?_
  refine L.nil ?_
  refine W.ret ?_
  exact RetK.one σ (.complex .f32 (fop .mul .f32 a x) (fop .mul .f32 b x)) rfl rfl (Ext.refl _) ⟨rfl, rfl⟩

theorem implPlus {w0 : World} {σ : Sg} (a b c d : Nat) :
    FnV Try.prog w0 91 [(.complex .f32 a b), (.complex .f32 c d)] σ (.complex .f32 (fop .add .f32 a c) (fop .add .f32 b d)) := by
  unfold FnV
  refine Fn.of_W 16 Try.func91 rfl Try.ntmps91 rfl ?_
  refine W.seq ?_
  refine W.region ?_
  refine L.v (o_assign (v := (.complex .f32 0 0)) rfl) ?_
  refine L.nil ?_
  refine W.seq ?_
  refine W.region ?_
  refine L.v (o_move (v := (.complex .f32 a b)) rfl) ?_
  refine L.v (o_real (k := .f32) (a := a) (b := b) rfl) ?_
  refine L.v (o_move (v := (.complex .f32 c d)) rfl) ?_
  refine L.v (o_real (k := .f32) (a := c) (b := d) rfl) ?_
  refine L.v (o_farith (k := .f32) (a := a) (b := c) rfl rfl rfl) ?_
  refine L.v (o_move (v := (.complex .f32 a b)) rfl) ?_
  refine L.v (o_imag (k := .f32) (a := a) (b := b) rfl) ?_
  refine L.v (o_move (v := (.complex .f32 c d)) rfl) ?_
  refine L.v (o_imag (k := .f32) (a := c) (b := d) rfl) ?_
  refine L.v (o_farith (k := .f32) (a := b) (b := d) rfl rfl rfl) ?_
  refine L.v (o_complex (k := .f32) (a := fop .add .f32 a c) (b := fop .add .f32 b d) rfl rfl) ?_
  refine L.v (o_assign (v := (.complex .f32 (fop .add .f32 a c) (fop .add .f32 b d))) rfl) ?_
  refine L.nil ?_
  refine W.ret ?_
  exact RetK.one σ (.complex .f32 (fop .add .f32 a c) (fop .add .f32 b d)) rfl rfl (Ext.refl _) ⟨rfl, rfl⟩

theorem lengthF {w0 : World} {σ : Sg} (p : Option Addr) (n c : Nat) :
    FnV Try.prog w0 90 [(.slice p n c)] σ (.int .i64 (n : Int)) := by
  unfold FnV
  refine Fn.of_W 5 Try.func90 rfl Try.ntmps90 rfl ?_
  refine W.seq ?_
  refine W.region ?_
  refine L.v (o_assign (v := (.int .i64 0)) rfl) ?_
  refine L.nil ?_
  refine W.seq ?_
  refine W.region ?_
  refine L.v (o_move (v := (.slice p n c)) rfl) ?_
  refine L.v (o_len (p := p) (n := n) (c := c) Try.underlying32 rfl) ?_
  refine L.v (o_assign (v := (.int .i64 (n : Int))) rfl) ?_
  refine L.nil ?_
  refine W.ret ?_
  exact RetK.one σ (.int .i64 (n : Int)) rfl rfl (Ext.refl _) ⟨rfl, rfl⟩

theorem isShortF {w0 : World} {σ : Sg} (p : Option Addr) (n c : Nat) :
    FnV Try.prog w0 60 [(.slice p n c)] σ (.bool (decide (1 ≤ (n : Int) ∧ (n : Int) ≤ 16))) := by
  unfold FnV
  refine Fn.of_W 6 Try.func60 rfl Try.ntmps60 rfl ?_
  refine W.seq ?_
  refine W.region ?_
  refine L.v (o_assign (v := (.bool false)) rfl) ?_
  refine L.nil ?_
  refine W.seq ?_
  refine W.region ?_
  refine L.v (o_move (v := (.slice p n c)) rfl) ?_
  refine L.v (v := (.int .i64 (n : Int))) (op_call [(.slice p n c)] Try.call90 rfl (lengthF p n c)) ?_
  refine L.v (v := (.bool (decide ((1 : Int) ≤ (n : Int) ∧ ((n : Int) : Int) ≤ 16)))) (op_call [(.int .i64 (n : Int)), (.int .i64 1), (.int .i64 16)] Try.call50 rfl (withinI (n : Int) 1 16)) ?_
  refine L.v (o_assign (v := (.bool (decide ((1 : Int) ≤ (n : Int) ∧ ((n : Int) : Int) ≤ 16)))) rfl) ?_
  refine L.nil ?_
  refine W.ret ?_
  exact RetK.one σ (.bool (decide ((1 : Int) ≤ (n : Int) ∧ ((n : Int) : Int) ≤ 16))) rfl rfl (Ext.refl _) ⟨rfl, rfl⟩

theorem specSpectrum {w0 : World} {σ : Sg} (p : Option Addr) (c : Nat) (xs : List Nat) (hs : Sl σ 1 p (xs.map fl)) (hn : 1 ≤ xs.length ∧ xs.length ≤ 16) :
    Fn Try.prog w0 59 [(.slice p xs.length c)] σ (RetFS w0 σ 1 ((speTo xs xs.length).map cx) xs.length id) := by
  refine Fn.of_W 37 Try.func59 rfl Try.ntmps59 rfl ?_
  refine W.seq ?_
  refine W.region ?_
  refine L.v (o_assign (v := (.slice none 0 0)) rfl) ?_
  refine L.nil ?_
  refine W.seq ?_
  obtain ⟨sb, so, rfl, _⟩ := hs.elem 0 (by omega) 0
  refine W.region ?_
  refine L.v (o_move (v := (.slice (some ⟨sb, so, none⟩) xs.length c)) rfl) ?_
  refine L.v (o_len (p := (some ⟨sb, so, none⟩)) (n := xs.length) (c := c) Try.underlying32 rfl) ?_
  refine L.v (o_assign (v := (.int .i64 (xs.length : Int))) rfl) ?_
  refine L.nil ?_
  refine W.seq ?_
  refine W.region ?_
  refine L.cons (o_buildSlice0 (info := Try.t57) Try.underlying50 Try.type57) ?_
  rintro _ _ ⟨b1, hf2, hw3, rfl, rfl⟩
  have ho0 := Own.new (σ := σ) (e := 57) 1 hw3
  have hx0 : Ext σ (sg σ b1 (57, [])) := (Ext.refl _).sg hf2
  have hv0 := ownAt (n := 0) (c := 0) hf2
  refine L.v (o_assign (v := (.slice (some ⟨b1, 0, none⟩) 0 0)) rfl) ?_
  refine L.nil ?_
  refine W.seq ?_
  refine W.seq ?_
  refine W.region ?_
  refine L.v (o_assign (v := (.int .i64 0)) rfl) ?_
  refine L.nil ?_
  refine W.block ?_
  refine W.loop (fun nn tt ss => ∃ (m : Nat) (v : Value), nn = xs.length - m ∧ m ≤ xs.length ∧ Own w0 ss 57 1 v (m) ((speTo xs m).map cv) ∧ Ext σ ss ∧ (∀ b, v.ownBlock = some b → σ b = none) ∧ FrOk tt [(0, (.slice (some ⟨sb, so, none⟩) xs.length c)), (3, (.int .i64 (xs.length : Int))), (4, v), (5, (.int .i64 (m : Int)))]) _ ⟨0, (.slice (some ⟨b1, 0, none⟩) 0 0), rfl, by omega, ho0, hx0, hv0, ⟨rfl, rfl, rfl, rfl, trivial⟩⟩ ?_
  rintro _ tz4 sz4 ⟨m, vz4, rfl, him, hoz4, hxz4, hvz4, fz4⟩
  replace fz4 : (upd (upd (upd (upd tz4 0 (.slice (some ⟨sb, so, none⟩) xs.length c)) 3 (.int .i64 (xs.length : Int))) 4 vz4) 5 (.int .i64 (m : Int))) = tz4 := frame_ok fz4
  rw [← fz4]
  clear fz4
  refine W.seq ?_
  refine W.seq ?_
  refine W.region ?_
  refine L.v (o_move (v := (.int .i64 (m : Int))) rfl) ?_
  refine L.v (o_move (v := (.int .i64 (xs.length : Int))) rfl) ?_
  refine L.v (o_ilss (a := (m : Int)) (b := (xs.length : Int)) rfl rfl rfl) ?_
  refine L.nil ?_
  refine W.cond (b := decide (((m : Int) : Int) < (xs.length : Int))) rfl (fun q5 => ?_) (fun q5 => ?_)
  ·
    have a6 : ((m : Int) : Int) < (xs.length : Int) := of_decide_eq_true q5
    refine W.skip ?_
    refine W.seq ?_
    refine W.block ?_
    refine W.seq ?_
    refine W.region ?_
    refine L.v (o_assign (v := (.complex .f32 0 0)) rfl) ?_
    refine L.nil ?_
    refine W.seq ?_
    refine W.seq ?_
    refine W.region ?_
    refine L.v (o_assign (v := (.int .i64 0)) rfl) ?_
    refine L.nil ?_
    refine W.block ?_
    refine W.loop (fun nn tt ss => ∃ (k : Nat), nn = xs.length - k ∧ (k ≤ xs.length) ∧ FrOk tt [(0, (.slice (some ⟨sb, so, none⟩) xs.length c)), (3, (.int .i64 (xs.length : Int))), (4, vz4), (5, (.int .i64 (m : Int))), (6, (.complex .f32 ((speS xs xs.length m k).1) ((speS xs xs.length m k).2))), (7, (.int .i64 (k : Int)))] ∧ sz4 = ss) _ ⟨0, rfl, (by omega), ⟨rfl, rfl, rfl, rfl, rfl, rfl, trivial⟩, rfl⟩ ?_
    rintro _ t7 _ ⟨k, rfl, hk, f8, rfl⟩
    rw [← frame_ok f8]
    show W _ _ _ _ _ (upd (upd (upd (upd (upd (upd t7 0 (.slice (some ⟨sb, so, none⟩) xs.length c)) 3 (.int .i64 (xs.length : Int))) 4 vz4) 5 (.int .i64 (m : Int))) 6 (.complex .f32 ((speS xs xs.length m k).1) ((speS xs xs.length m k).2))) 7 (.int .i64 (k : Int))) _
    refine W.seq ?_
    refine W.seq ?_
    refine W.region ?_
    refine L.v (o_move (v := (.int .i64 (k : Int))) rfl) ?_
    refine L.v (o_move (v := (.int .i64 (xs.length : Int))) rfl) ?_
    refine L.v (o_ilss (a := (k : Int)) (b := (xs.length : Int)) rfl rfl rfl) ?_
    refine L.nil ?_
    refine W.cond (b := decide (((k : Int) : Int) < (xs.length : Int))) rfl (fun q9 => ?_) (fun q9 => ?_)
    ·
      have a10 : ((k : Int) : Int) < (xs.length : Int) := of_decide_eq_true q9
      refine W.skip ?_
      refine W.seq ?_
      refine W.block ?_
      refine W.draw [true, true, true, true, true, true, true, true, true, true, true, true] (fun s => s = sz4) (by kernel_rfl) (by kernel_rfl) ?_
      refine DL.v (fun _ hD => by cases hD; exact o_move (v := (.complex .f32 ((speS xs xs.length m k).1) ((speS xs xs.length m k).2))) rfl) ?_
      refine DL.v (fun _ hD => by cases hD; exact o_move (v := (.int .i64 (k : Int))) rfl) ?_
      refine DL.v (fun _ hD => by cases hD; exact o_move (v := (.int .i64 (m : Int))) rfl) ?_
      refine DL.v (fun _ hD => by cases hD; exact o_move (v := (.int .i64 (xs.length : Int))) rfl) ?_
      refine DL.v (v := (.complex .f32 ((ph (k * m % xs.length) xs.length).1) ((ph (k * m % xs.length) xs.length).2))) (fun _ hD => by cases hD; exact op_call [(.int .i64 (k : Int)), (.int .i64 (m : Int)), (.int .i64 (xs.length : Int)), (.bool false)] Try.call89 rfl (specPhas8 k m xs.length (by omega) (by omega) (by omega))) ?_
      refine DL.v (fun _ hD => by cases hD; exact o_move (v := (.slice (some ⟨sb, so, none⟩) xs.length c)) rfl) ?_
      refine DL.v (fun _ hD => by cases hD; exact o_move (v := (.int .i64 (k : Int))) rfl) ?_
      refine DL.v (fun _ hD => by cases hD; exact o_indexAddr (b := sb) (off := so) (n := xs.length) (c := c) k Try.underlying32 Try.sizeOf24 rfl rfl (by omega)) ?_
      refine DL.v (fun _ hD => by cases hD; exact o_load (b := sb) (off := so + k * 1) (v := (.float .f32 (xs.getD k 0))) Try.isAgg24 rfl (Rds.fst (Sl.at (Sl.ext hs hxz4) k (by omega) 0)) rfl) ?_
      refine DL.v (v := (.complex .f32 (fop .mul .f32 ((ph (k * m % xs.length) xs.length).1) (xs.getD k 0)) (fop .mul .f32 ((ph (k * m % xs.length) xs.length).2) (xs.getD k 0)))) (fun _ hD => by cases hD; exact op_call [(.complex .f32 ((ph (k * m % xs.length) xs.length).1) ((ph (k * m % xs.length) xs.length).2)), (.float .f32 (xs.getD k 0))] Try.call88 rfl (specScale ((ph (k * m % xs.length) xs.length).1) ((ph (k * m % xs.length) xs.length).2) (xs.getD k 0))) ?_
      refine DL.v (fun _ hD => by cases hD; exact o_cadd (k := .f32) (a := (speS xs xs.length m k).1) (b := (speS xs xs.length m k).2) (c := fop .mul .f32 ((ph (k * m % xs.length) xs.length).1) (xs.getD k 0)) (d := fop .mul .f32 ((ph (k * m % xs.length) xs.length).2) (xs.getD k 0)) rfl rfl) ?_
      refine DL.v (fun _ hD => by cases hD; exact o_assign (v := (.complex .f32 (fop .add .f32 ((speS xs xs.length m k).1) (fop .mul .f32 ((ph (k * m % xs.length) xs.length).1) (xs.getD k 0))) (fop .add .f32 ((speS xs xs.length m k).2) (fop .mul .f32 ((ph (k * m % xs.length) xs.length).2) (xs.getD k 0))))) rfl) ?_
      refine DL.nil rfl ?_
      refine W.region ?_
      refine L.v (o_move (v := (.int .i64 (k : Int))) rfl) ?_
      refine L.v (o_iadd (a := (k : Int)) (b := 1) (c := ((k + 1 : Nat) : Int)) rfl rfl (by rw [IntWalk.i64_in _ (by omega)]; try omega)) ?_
      refine L.v (o_assign (v := (.int .i64 (((k + 1 : Nat) : Int)))) rfl) ?_
      refine L.nil ?_
      exact ⟨_, (by omega), k + 1, rfl, (by omega), ⟨rfl, rfl, rfl, rfl, rfl, rfl, trivial⟩, rfl⟩
    ·
      have a11 : ¬ (((k : Int) : Int) < (xs.length : Int)) := of_decide_eq_false q9
      refine W.exit ?_
      obtain rfl : k = xs.length := by omega
      refine W.region ?_
      refine L.v (o_move (v := vz4) rfl) ?_
      refine L.v (o_move (v := (.complex .f32 ((speS xs xs.length m xs.length).1) ((speS xs xs.length m xs.length).2))) rfl) ?_
      refine L.cons (o_buildSlice (info := Try.t57) (z := (.complex .f32 0 0)) [(.complex .f32 ((speS xs xs.length m xs.length).1) ((speS xs xs.length m xs.length).2))] Try.underlying50 Try.type57 rfl rfl rfl rfl (by decide) rfl rfl (by simp [Value.oneCell'])) ?_
      rintro _ _ ⟨b12, hf13, hw14, rfl, rfl⟩
      have hx15 := Ext.trans hxz4 ((Ext.refl _).sg (x := (57, [(.complex .f32 ((speS xs xs.length m xs.length).1) ((speS xs xs.length m xs.length).2))])) hf13)
      have ho16 := Own.ext hoz4 ((Ext.refl _).sg (x := (57, [(.complex .f32 ((speS xs xs.length m xs.length).1) ((speS xs xs.length m xs.length).2))])) hf13)
      refine L.cons (o_append (info := Try.t57) (z := (.complex .f32 0 0)) (size := 1) (bytes := 8) (v := vz4) (n := m) (m := 1) (c := 1) (b := b12) (off := 0) (xs := (speTo xs m).map cv) (news := [(.complex .f32 ((speS xs xs.length m xs.length).1) ((speS xs xs.length m xs.length).2))]) Try.underlying50 Try.type57 rfl rfl rfl rfl rfl ho16 rfl (by decide) rfl (Rds.of (sg_eq _ _ _) (by intro j v hj; simpa using hj)) (by simp [Value.oneCell']) (by unfold maxLen; omega) (by omega)) ?_
      rintro v17 s18 ⟨ho19, gr20⟩
      have hx21 := Grew.ext gr20 hx15 hvz4
      have hv22 := Grew.fresh gr20 hx15 hvz4
      refine L.v (o_assign (v := v17) rfl) ?_
      refine L.nil ?_
      refine W.region ?_
      refine L.v (o_move (v := (.int .i64 (m : Int))) rfl) ?_
      refine L.v (o_iadd (a := (m : Int)) (b := 1) (c := ((m + 1 : Nat) : Int)) rfl rfl (by rw [IntWalk.i64_in _ (by omega)]; try omega)) ?_
      refine L.v (o_assign (v := (.int .i64 (((m + 1 : Nat) : Int)))) rfl) ?_
      refine L.nil ?_
      exact ⟨_, (by omega), m + 1, v17, rfl, by omega, (by rw [speTo_succ, List.map_append]; exact ho19), hx21, hv22, ⟨rfl, rfl, rfl, rfl, trivial⟩⟩
  ·
    have a23 : ¬ (((m : Int) : Int) < (xs.length : Int)) := of_decide_eq_false q5
    refine W.exit ?_
    refine W.seq ?_
    refine W.region ?_
    refine L.v (o_move (v := vz4) rfl) ?_
    refine L.v (o_assign (v := vz4) rfl) ?_
    refine L.nil ?_
    refine W.ret ?_
    obtain rfl : m = xs.length := by omega
    obtain ⟨p', c', hpc, hfs⟩ := Fsl.of_own (rows := (speTo xs xs.length).map cx) (n := xs.length) (by rw [flat_cx]; exact hoz4) (by rw [List.length_map, speTo_len]) (cx_all _) hxz4 hvz4
    exact RetK.one _ vz4 rfl rfl (Ext.refl _) ⟨p', c', hpc, hfs⟩

theorem implSpectrum {w0 : World} {σ : Sg} (p : Option Addr) (c : Nat) (xs : List Nat) (hs : Sl σ 1 p (xs.map fl)) (hn : 1 ≤ xs.length ∧ xs.length ≤ 16) :
    Fn Try.prog w0 61 [(.slice p xs.length c)] σ (RetFS w0 σ 1 ((speTo xs xs.length).map cx) xs.length id) := by
  refine Fn.of_W 43 Try.func61 rfl Try.ntmps61 rfl ?_
  refine W.seq ?_
  refine W.region ?_
  refine L.v (o_assign (v := (.slice none 0 0)) rfl) ?_
  refine L.nil ?_
  refine W.seq ?_
  obtain ⟨sb, so, rfl, _⟩ := hs.elem 0 (by omega) 0
  refine W.region ?_
  refine L.v (o_move (v := (.slice (some ⟨sb, so, none⟩) xs.length c)) rfl) ?_
  refine L.v (o_len (p := (some ⟨sb, so, none⟩)) (n := xs.length) (c := c) Try.underlying32 rfl) ?_
  refine L.v (o_assign (v := (.int .i64 (xs.length : Int))) rfl) ?_
  refine L.nil ?_
  refine W.seq ?_
  refine W.region ?_
  refine L.v (o_move (v := (.int .i64 (xs.length : Int))) rfl) ?_
  refine L.cons (o_makeSlice (ik := .i64) (info := Try.t57) (z := .complex .f32 0 0) xs.length Try.underlying50 Try.type57 rfl rfl (by show 8 * _ ≤ _; omega) (by omega)) ?_
  rintro _ _ ⟨ob, hf, hw, rfl, rfl⟩
  rw [show (madeCells ((Value.complex .f32 0 0).cells) (xs.length * Try.t57.size)).toList = (mc xs 0).map cv by show (madeCells #[_] (xs.length * 1)).toList = _; rw [Nat.mul_one, made_one, mc_init]; simp [cv]]
  refine L.v (o_assign (v := (.slice (some ⟨ob, 0, none⟩) xs.length xs.length)) rfl) ?_
  refine L.nil ?_
  refine W.seq ?_
  refine W.seq ?_
  refine W.region ?_
  refine L.v (o_move (v := (.slice (some ⟨ob, 0, none⟩) xs.length xs.length)) rfl) ?_
  refine L.v (o_len (p := (some ⟨ob, 0, none⟩)) (n := xs.length) (c := xs.length) Try.underlying50 rfl) ?_
  refine L.v (o_move (v := (.int .i64 0)) rfl) ?_
  refine L.nil ?_
  refine W.block ?_
  refine W.loop (fun nn tt ss => ∃ (m : Nat), nn = xs.length - m ∧ (m ≤ xs.length) ∧ FrOk tt [(0, (.slice (some ⟨sb, so, none⟩) xs.length c)), (3, (.int .i64 (xs.length : Int))), (4, (.slice (some ⟨ob, 0, none⟩) xs.length xs.length)), (13, (.int .i64 (xs.length : Int))), (14, (.int .i64 (m : Int)))] ∧ sg σ ob (57, (mc xs m).map cv) = ss) _ ⟨0, rfl, (by omega), ⟨rfl, rfl, rfl, rfl, rfl, trivial⟩, rfl⟩ ?_
  rintro _ t1 _ ⟨m, rfl, hmm, f2, rfl⟩
  rw [← frame_ok f2]
  show W _ _ _ _ _ (upd (upd (upd (upd (upd t1 0 (.slice (some ⟨sb, so, none⟩) xs.length c)) 3 (.int .i64 (xs.length : Int))) 4 (.slice (some ⟨ob, 0, none⟩) xs.length xs.length)) 13 (.int .i64 (xs.length : Int))) 14 (.int .i64 (m : Int))) _
  refine W.seq ?_
  refine W.region ?_
  refine L.v (o_ilss (a := (m : Int)) (b := (xs.length : Int)) rfl rfl rfl) ?_
  refine L.nil ?_
  refine W.seq ?_
  refine W.cond (b := decide (((m : Int) : Int) < (xs.length : Int))) rfl (fun q3 => ?_) (fun q3 => ?_)
  ·
    have a4 : ((m : Int) : Int) < (xs.length : Int) := of_decide_eq_true q3
    refine W.skip ?_
    refine W.seq ?_
    refine W.block ?_
    refine W.seq ?_
    refine W.region ?_
    refine L.v (o_move (v := (.int .i64 (m : Int))) rfl) ?_
    refine L.v (o_assign (v := (.int .i64 (m : Int))) rfl) ?_
    refine L.nil ?_
    refine W.seq ?_
    refine W.region ?_
    refine L.v (o_move (v := (.slice (some ⟨sb, so, none⟩) xs.length c)) rfl) ?_
    refine L.v (o_len (p := (some ⟨sb, so, none⟩)) (n := xs.length) (c := c) Try.underlying32 rfl) ?_
    refine L.v (o_move (v := (.int .i64 0)) rfl) ?_
    refine L.nil ?_
    refine W.block ?_
    refine W.loop (fun nn tt ss => ∃ (k : Nat), nn = xs.length - k ∧ (k ≤ xs.length) ∧ FrOk tt [(0, (.slice (some ⟨sb, so, none⟩) xs.length c)), (3, (.int .i64 (xs.length : Int))), (4, (.slice (some ⟨ob, 0, none⟩) xs.length xs.length)), (5, (.int .i64 (m : Int))), (13, (.int .i64 (xs.length : Int))), (14, (.int .i64 (m : Int))), (17, (.slice (some ⟨sb, so, none⟩) xs.length c)), (18, (.int .i64 (xs.length : Int))), (19, (.int .i64 (k : Int)))] ∧ sg σ ob (57, ((mc xs m).set m (speS xs xs.length m k)).map cv) = ss) _ ⟨0, rfl, (by omega), ⟨rfl, rfl, rfl, rfl, rfl, rfl, rfl, rfl, rfl, trivial⟩, (by rw [mc_zero (by omega)])⟩ ?_
    rintro _ t5 _ ⟨k, rfl, hk, f6, rfl⟩
    rw [← frame_ok f6]
    show W _ _ _ _ _ (upd (upd (upd (upd (upd (upd (upd (upd (upd t5 0 (.slice (some ⟨sb, so, none⟩) xs.length c)) 3 (.int .i64 (xs.length : Int))) 4 (.slice (some ⟨ob, 0, none⟩) xs.length xs.length)) 5 (.int .i64 (m : Int))) 13 (.int .i64 (xs.length : Int))) 14 (.int .i64 (m : Int))) 17 (.slice (some ⟨sb, so, none⟩) xs.length c)) 18 (.int .i64 (xs.length : Int))) 19 (.int .i64 (k : Int))) _
    refine W.seq ?_
    refine W.region ?_
    refine L.v (o_ilss (a := (k : Int)) (b := (xs.length : Int)) rfl rfl rfl) ?_
    refine L.nil ?_
    refine W.seq ?_
    refine W.cond (b := decide (((k : Int) : Int) < (xs.length : Int))) rfl (fun q7 => ?_) (fun q7 => ?_)
    ·
      have a8 : ((k : Int) : Int) < (xs.length : Int) := of_decide_eq_true q7
      refine W.skip ?_
      refine W.seq ?_
      refine W.block ?_
      refine W.seq ?_
      refine W.region ?_
      refine L.v (o_move (v := (.int .i64 (k : Int))) rfl) ?_
      refine L.v (o_indexAddr (b := sb) (off := so) (n := xs.length) (c := c) k Try.underlying32 Try.sizeOf24 rfl rfl (by omega)) ?_
      refine L.v (o_load (b := sb) (off := so + k * 1) (v := (.float .f32 (xs.getD k 0))) Try.isAgg24 rfl (Rds.fst (Sl.at (Sl.ext hs ((Ext.refl _).sg hf)) k (by omega) 0)) rfl) ?_
      refine L.v (o_assign (v := (.int .i64 (k : Int))) rfl) ?_
      refine L.v (o_assign (v := (.float .f32 (xs.getD k 0))) rfl) ?_
      refine L.nil ?_
      refine W.drawLast 16 (fun s => s = sg σ ob (57, ((mc xs m).set m (speS xs xs.length m k)).map cv)) (by kernel_rfl) (by kernel_rfl) ?_
      refine QL.v (fun _ hD => by cases hD; exact o_move (v := (.slice (some ⟨ob, 0, none⟩) xs.length xs.length)) rfl) ?_
      refine QL.v (fun _ hD => by cases hD; exact o_move (v := (.int .i64 (m : Int))) rfl) ?_
      refine QL.v (fun _ hD => by cases hD; exact o_move (v := (.slice (some ⟨ob, 0, none⟩) xs.length xs.length)) rfl) ?_
      refine QL.v (fun _ hD => by cases hD; exact o_move (v := (.int .i64 (m : Int))) rfl) ?_
      refine QL.v (fun _ hD => by cases hD; exact o_indexAddr (b := ob) (off := 0) (n := xs.length) (c := xs.length) m Try.underlying50 Try.sizeOf57 rfl rfl (by omega)) ?_
      refine QL.v (fun _ hD => by cases hD; exact o_load (b := ob) (off := 0 + m * 1) (v := (.complex .f32 ((speS xs xs.length m k).1) ((speS xs xs.length m k).2))) Try.isAgg57 rfl (mc_rd (by omega)) rfl) ?_
      refine QL.v (fun _ hD => by cases hD; exact o_move (v := (.int .i64 (k : Int))) rfl) ?_
      refine QL.v (fun _ hD => by cases hD; exact o_move (v := (.int .i64 (m : Int))) rfl) ?_
      refine QL.v (fun _ hD => by cases hD; exact o_move (v := (.int .i64 (xs.length : Int))) rfl) ?_
      refine QL.v (v := (.float .f64 (fop .quo .f64 (FloatKind.nearest .f64 ((k * m % xs.length : Nat) : Int)) (FloatKind.nearest .f64 (xs.length : Int))))) (fun _ hD => by cases hD; exact op_call [(.int .i64 (k : Int)), (.int .i64 (m : Int)), (.int .i64 (xs.length : Int))] Try.call94 rfl (implTurns k m xs.length (by omega) (by omega) (by omega))) ?_
      refine QL.v (fun _ hD => by cases hD; exact o_fneg (k := .f64) (a := fop .quo .f64 (FloatKind.nearest .f64 ((k * m % xs.length : Nat) : Int)) (FloatKind.nearest .f64 (xs.length : Int))) rfl) ?_
      refine QL.v (v := (.complex .f32 ((ph (k * m % xs.length) xs.length).1) ((ph (k * m % xs.length) xs.length).2))) (fun _ hD => by cases hD; exact op_call [(.float .f64 (Op.negFloat .f64 (fop .quo .f64 (FloatKind.nearest .f64 ((k * m % xs.length : Nat) : Int)) (FloatKind.nearest .f64 (xs.length : Int)))))] Try.call93 rfl (implPhas (k * m % xs.length) xs.length (Nat.mod_lt _ (by omega)) (by omega))) ?_
      refine QL.v (fun _ hD => by cases hD; exact o_move (v := (.float .f32 (xs.getD k 0))) rfl) ?_
      refine QL.v (v := (.complex .f32 (fop .mul .f32 ((ph (k * m % xs.length) xs.length).1) (xs.getD k 0)) (fop .mul .f32 ((ph (k * m % xs.length) xs.length).2) (xs.getD k 0)))) (fun _ hD => by cases hD; exact op_call [(.complex .f32 ((ph (k * m % xs.length) xs.length).1) ((ph (k * m % xs.length) xs.length).2)), (.float .f32 (xs.getD k 0))] Try.call92 rfl (implScale ((ph (k * m % xs.length) xs.length).1) ((ph (k * m % xs.length) xs.length).2) (xs.getD k 0))) ?_
      refine QL.v (v := (.complex .f32 (fop .add .f32 ((speS xs xs.length m k).1) (fop .mul .f32 ((ph (k * m % xs.length) xs.length).1) (xs.getD k 0))) (fop .add .f32 ((speS xs xs.length m k).2) (fop .mul .f32 ((ph (k * m % xs.length) xs.length).2) (xs.getD k 0))))) (fun _ hD => by cases hD; exact op_call [(.complex .f32 ((speS xs xs.length m k).1) ((speS xs xs.length m k).2)), (.complex .f32 (fop .mul .f32 ((ph (k * m % xs.length) xs.length).1) (xs.getD k 0)) (fop .mul .f32 ((ph (k * m % xs.length) xs.length).2) (xs.getD k 0)))] Try.call91 rfl (implPlus ((speS xs xs.length m k).1) ((speS xs xs.length m k).2) (fop .mul .f32 ((ph (k * m % xs.length) xs.length).1) (xs.getD k 0)) (fop .mul .f32 ((ph (k * m % xs.length) xs.length).2) (xs.getD k 0)))) ?_
      refine QL.v (fun _ hD => by cases hD; exact o_indexAddr (b := ob) (off := 0) (n := xs.length) (c := xs.length) m Try.underlying50 Try.sizeOf57 rfl rfl (by omega)) ?_
      refine QL.last0 rfl (o_store (b := ob) (off := 0 + m * 1) (v := (.complex .f32 (fop .add .f32 ((speS xs xs.length m k).1) (fop .mul .f32 ((ph (k * m % xs.length) xs.length).1) (xs.getD k 0))) (fop .add .f32 ((speS xs xs.length m k).2) (fop .mul .f32 ((ph (k * m % xs.length) xs.length).2) (xs.getD k 0))))) (cs := ((mc xs m).set m (speS xs xs.length m k)).map cv) Try.sizeOf57 rfl rfl rfl (sg_eq _ _ _) (by rw [List.length_map, List.length_set, mc_len (by omega)]; omega) hw) ?_
      rintro _ _ ⟨rfl, rfl⟩
      rw [sg_sg, show (((mc xs m).set m (speS xs xs.length m k)).map cv).set (0 + m * 1) (.complex .f32 (fop .add .f32 ((speS xs xs.length m k).1) (fop .mul .f32 ((ph (k * m % xs.length) xs.length).1) (xs.getD k 0))) (fop .add .f32 ((speS xs xs.length m k).2) (fop .mul .f32 ((ph (k * m % xs.length) xs.length).2) (xs.getD k 0)))) = ((mc xs m).set m (speS xs xs.length m (k + 1))).map cv by rw [show 0 + m * 1 = m by omega, show (.complex .f32 (fop .add .f32 ((speS xs xs.length m k).1) (fop .mul .f32 ((ph (k * m % xs.length) xs.length).1) (xs.getD k 0))) (fop .add .f32 ((speS xs xs.length m k).2) (fop .mul .f32 ((ph (k * m % xs.length) xs.length).2) (xs.getD k 0)))) = cv (speS xs xs.length m (k + 1)) from rfl, ← List.map_set, List.set_set]]
      refine W.region ?_
      refine L.v (o_iadd (a := (k : Int)) (b := 1) (c := ((k + 1 : Nat) : Int)) rfl rfl (by rw [IntWalk.i64_in _ (by omega)]; try omega)) ?_
      refine L.v (o_move (v := (.int .i64 (((k + 1 : Nat) : Int)))) rfl) ?_
      refine L.nil ?_
      exact ⟨_, (by omega), k + 1, rfl, (by omega), ⟨rfl, rfl, rfl, rfl, rfl, rfl, rfl, rfl, rfl, trivial⟩, rfl⟩
    ·
      have a9 : ¬ (((k : Int) : Int) < (xs.length : Int)) := of_decide_eq_false q7
      refine W.exit ?_
      obtain rfl : k = xs.length := by omega
      refine W.region ?_
      refine L.v (o_iadd (a := (m : Int)) (b := 1) (c := ((m + 1 : Nat) : Int)) rfl rfl (by rw [IntWalk.i64_in _ (by omega)]; try omega)) ?_
      refine L.v (o_move (v := (.int .i64 (((m + 1 : Nat) : Int)))) rfl) ?_
      refine L.nil ?_
      exact ⟨_, (by omega), m + 1, rfl, (by omega), ⟨rfl, rfl, rfl, rfl, rfl, trivial⟩, (by rw [mc_step (by omega)])⟩
  ·
    have a10 : ¬ (((m : Int) : Int) < (xs.length : Int)) := of_decide_eq_false q3
    refine W.exit ?_
    refine W.seq ?_
    refine W.region ?_
    refine L.v (o_move (v := (.slice (some ⟨ob, 0, none⟩) xs.length xs.length)) rfl) ?_
    refine L.v (o_assign (v := (.slice (some ⟨ob, 0, none⟩) xs.length xs.length)) rfl) ?_
    refine L.nil ?_
    refine W.ret ?_
    obtain rfl : m = xs.length := by omega
    rw [mc_full, show (speTo xs xs.length).map cv = ((speTo xs xs.length).map cx).flatten from (flat_cx _).symm]
    exact RetK.one _ (.slice (some ⟨ob, 0, none⟩) xs.length xs.length) rfl rfl (Ext.refl _) ⟨_, xs.length, rfl, Fsl.of_newB hf hw (cx_all _)⟩

theorem specSpec {w0 : World} {σ : Sg} (p : Option Addr) (c : Nat) (xs : List Nat) (hs : Sl σ 1 p (xs.map fl)) :
    Fn Try.prog w0 30 [(.slice p xs.length c)] σ (RetFS w0 σ 1 ((specF xs).map cx) (specF xs).length (fun v => .tuple #[v, .bool (specB xs)])) := by
  refine Fn.of_W 10 Try.func30 rfl Try.ntmps30 rfl ?_
  refine W.seq ?_
  refine W.region ?_
  refine L.v (o_assign (v := (.slice none 0 0)) rfl) ?_
  refine L.v (o_assign (v := (.bool false)) rfl) ?_
  refine L.nil ?_
  refine W.seq ?_
  refine W.seq ?_
  refine W.region ?_
  refine L.v (o_move (v := (.slice p xs.length c)) rfl) ?_
  refine L.v (o_len (p := p) (n := xs.length) (c := c) Try.underlying32 rfl) ?_
  refine L.v (v := (.bool (decide ((1 : Int) ≤ (xs.length : Int) ∧ ((xs.length : Int) : Int) ≤ 16)))) (op_call [(.int .i64 (xs.length : Int)), (.int .i64 1), (.int .i64 16)] Try.call47 rfl (withinS (xs.length : Int) 1 16)) ?_
  refine L.v (o_not (b := decide ((1 : Int) ≤ (xs.length : Int) ∧ ((xs.length : Int) : Int) ≤ 16)) rfl rfl) ?_
  refine L.nil ?_
  refine W.cond (b := !(decide ((1 : Int) ≤ (xs.length : Int) ∧ ((xs.length : Int) : Int) ≤ 16))) rfl (fun q1 => ?_) (fun q1 => ?_)
  ·
    have a2 : ¬ ((1 : Int) ≤ (xs.length : Int) ∧ ((xs.length : Int) : Int) ≤ 16) := of_decide_eq_false (bn_t q1)
    refine W.seq ?_
    refine W.region ?_
    refine L.v (o_assign (v := (.slice none 0 0)) rfl) ?_
    refine L.v (o_assign (v := (.bool false)) rfl) ?_
    refine L.nil ?_
    refine W.ret ?_
    have hwn : specB xs = false := decide_eq_false (by omega)
    exact RetK.two σ (.slice none 0 0) (.bool false) rfl rfl rfl rfl rfl (Ext.refl _) ⟨none, 0, by rw [specF_no hwn, hwn]; rfl, by rw [specF_no hwn]; exact Fsl.nil 1⟩
  ·
    have a3 : (1 : Int) ≤ (xs.length : Int) ∧ ((xs.length : Int) : Int) ≤ 16 := of_decide_eq_true (bn_f q1)
    refine W.skip ?_
    refine W.seq ?_
    refine W.region ?_
    refine L.v (o_move (v := (.slice p xs.length c)) rfl) ?_
    refine L.cons (op_call [(.slice p xs.length c)] Try.call59 rfl (specSpectrum p c xs hs (by omega))) ?_
    rintro _ s6 ⟨p4, c5, rfl, fs7⟩
    have ap8 : Apart (xs.length) (xs.length) p4 p := by simpa using Fsl.apart fs7 hs (fl_ne _)
    have hs9 := Sl.ext hs fs7.ext
    have ex10 := Ext.trans (Ext.refl σ) fs7.ext
    have mu11 := Fsl.mut fs7 (xs.length) (by simp)
    refine L.v (o_assign (v := (.slice p4 xs.length c5)) rfl) ?_
    refine L.v (o_assign (v := (.bool true)) rfl) ?_
    refine L.nil ?_
    refine W.ret ?_
    have hwb : specB xs = true := decide_eq_true (by omega)
    exact RetK.two _ (.slice p4 xs.length c5) (.bool true) rfl rfl rfl rfl rfl (Ext.refl _) ⟨_, _, by rw [specF_yes hwb, hwb, speTo_len], by rw [specF_yes hwb]; exact fs7⟩

theorem implSpec {w0 : World} {σ : Sg} (p : Option Addr) (c : Nat) (xs : List Nat) (hs : Sl σ 1 p (xs.map fl)) :
    Fn Try.prog w0 32 [(.slice p xs.length c)] σ (RetFS w0 σ 1 ((specF xs).map cx) (specF xs).length (fun v => .tuple #[v, .bool (specB xs)])) := by
  refine Fn.of_W 9 Try.func32 rfl Try.ntmps32 rfl ?_
  refine W.seq ?_
  refine W.region ?_
  refine L.v (o_assign (v := (.slice none 0 0)) rfl) ?_
  refine L.v (o_assign (v := (.bool false)) rfl) ?_
  refine L.nil ?_
  refine W.seq ?_
  refine W.seq ?_
  refine W.region ?_
  refine L.v (o_move (v := (.slice p xs.length c)) rfl) ?_
  refine L.v (v := (.bool (decide (1 ≤ (xs.length : Int) ∧ (xs.length : Int) ≤ 16)))) (op_call [(.slice p xs.length c)] Try.call60 rfl (isShortF p xs.length c)) ?_
  refine L.v (o_not (b := decide (1 ≤ (xs.length : Int) ∧ (xs.length : Int) ≤ 16)) rfl rfl) ?_
  refine L.nil ?_
  refine W.cond (b := !(decide (1 ≤ (xs.length : Int) ∧ (xs.length : Int) ≤ 16))) rfl (fun q1 => ?_) (fun q1 => ?_)
  ·
    have a2 : ¬ (1 ≤ (xs.length : Int) ∧ (xs.length : Int) ≤ 16) := of_decide_eq_false (bn_t q1)
    refine W.seq ?_
    refine W.region ?_
    refine L.v (o_assign (v := (.slice none 0 0)) rfl) ?_
    refine L.v (o_assign (v := (.bool false)) rfl) ?_
    refine L.nil ?_
    refine W.ret ?_
    have hwn : specB xs = false := decide_eq_false (by omega)
    exact RetK.two σ (.slice none 0 0) (.bool false) rfl rfl rfl rfl rfl (Ext.refl _) ⟨none, 0, by rw [specF_no hwn, hwn]; rfl, by rw [specF_no hwn]; exact Fsl.nil 1⟩
  ·
    have a3 : 1 ≤ (xs.length : Int) ∧ (xs.length : Int) ≤ 16 := of_decide_eq_true (bn_f q1)
    refine W.skip ?_
    refine W.seq ?_
    refine W.region ?_
    refine L.v (o_move (v := (.slice p xs.length c)) rfl) ?_
    refine L.cons (op_call [(.slice p xs.length c)] Try.call61 rfl (implSpectrum p c xs hs (by omega))) ?_
    rintro _ s6 ⟨p4, c5, rfl, fs7⟩
    have ap8 : Apart (xs.length) (xs.length) p4 p := by simpa using Fsl.apart fs7 hs (fl_ne _)
    have hs9 := Sl.ext hs fs7.ext
    have ex10 := Ext.trans (Ext.refl σ) fs7.ext
    have mu11 := Fsl.mut fs7 (xs.length) (by simp)
    refine L.v (o_assign (v := (.slice p4 xs.length c5)) rfl) ?_
    refine L.v (o_assign (v := (.bool true)) rfl) ?_
    refine L.nil ?_
    refine W.ret ?_
    have hwb : specB xs = true := decide_eq_true (by omega)
    exact RetK.two _ (.slice p4 xs.length c5) (.bool true) rfl rfl rfl rfl rfl (Ext.refl _) ⟨_, _, by rw [specF_yes hwb, hwb, speTo_len], by rw [specF_yes hwb]; exact fs7⟩

end Go.Proofs.Ytnonlibekcacgaa.En
