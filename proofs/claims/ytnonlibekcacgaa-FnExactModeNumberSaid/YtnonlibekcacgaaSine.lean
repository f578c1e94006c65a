/- The sine of the program and of the reference, at a number of turns from 0 to a half: one value. -/
import Derived.Test.YtnonlibekcacgaaEngO
import Derived.Test.YtnonlibekcacgaaLib
import Derived.Test.YtnonlibekcacgaaRows
namespace Go.Proofs.Ytnonlibekcacgaa.En
open Go
set_option linter.unusedVariables false
set_option maxRecDepth 100000
def absI (t : Nat) : Int := IntKind.u64.wrap ((BitVec.ofInt IntKind.u64.bits (t : Int) &&& ~~~ BitVec.ofInt IntKind.u64.bits 9223372036854775808).toNat)
def absF (t : Nat) : Nat := (absI t).toNat
def truncF (t : Nat) : Nat := FloatKind.f64.encode ((FloatKind.f64.decode t).integral .zero)
theorem trunc_run {P : Program} {t : Nat} (hn : isnan .f64 t = false) (w : World) : (Extern.MathFloor.toIntegral "math.archTrunc" .zero #[.float .f64 t]).run P w = .ok (.float .f64 (truncF t)) w := by
  unfold isnan at hn
  unfold truncF
  obtain ⟨X, e⟩ : ∃ X : Bool → Nat → Sem Value, Extern.MathFloor.toIntegral "math.archTrunc" .zero #[.float .f64 t] = (match FloatKind.f64.decode t with | .nan s p => X s p | d => pure (.float .f64 (FloatKind.f64.encode (d.integral .zero)))) := ⟨_, rfl⟩
  rw [e]
  generalize FloatKind.f64.decode t = d at hn ⊢
  cases d with
  | nan s p => cases hn
  | _ => rfl
theorem nearest0 : FloatKind.nearest .f64 0 = 0 := by decide +kernel
theorem o_cvI0 {P : Program} {w0 : World} {N : Nat} {t : Fr} {σ : Sg} {ty : TypeId} {x : Operand} {S D : TypeId} {k : IntKind} (hs : (P.underlying S).isSome = true) (hd : P.underlying D = some (.float .f64)) (hx : ev N t x = .int k 0) : OpV P w0 N (.convert S D x) ty t σ (.float .f64 0) := by
  have h := o_cvIF (P := P) (w0 := w0) (N := N) (t := t) (σ := σ) (ty := ty) hs hd hx
  rwa [nearest0] at h
theorem fac_wrap (j : Nat) (h : j < 8) : IntKind.i64.wrap ((2 * ((8 - j : Nat) : Int)) * (2 * ((8 - j : Nat) : Int) + 1)) = (((2 * (8 - j)) * (2 * (8 - j) + 1) : Nat) : Int) := by
  rcases j with _ | _ | _ | _ | _ | _ | _ | _ | j
  all_goals first | decide +kernel | omega
def sinP (u : Nat) : Nat → Nat
  | 0 => 4607182418800017408
  | j + 1 => fop .sub .f64 4607182418800017408 (fop .quo .f64 (fop .mul .f64 u (sinP u j)) (FloatKind.nearest .f64 (((2 * (8 - j)) * (2 * (8 - j) + 1) : Nat) : Int)))
def sineG (g : Nat) : Nat := fop .mul .f64 (fop .mul .f64 g 4618760256179416344) (sinP (fop .mul .f64 (fop .mul .f64 g 4618760256179416344) (fop .mul .f64 g 4618760256179416344)) 8)
def sineV (f : Nat) : Nat := sineG (if fcmp .gtr .f64 f 4598175219545276416 = true then fop .sub .f64 4602678819172646912 f else f)
theorem sineV_t {f : Nat} (h : fcmp .gtr .f64 f 4598175219545276416 = true) : sineV f = sineG (fop .sub .f64 4602678819172646912 f) := by rw [sineV, if_pos h]
theorem sineV_f {f : Nat} (h : fcmp .gtr .f64 f 4598175219545276416 = false) : sineV f = sineG f := by rw [sineV, if_neg (by rw [h]; decide)]
structure Fine (t : Nat) : Prop where
  h1 : isnan .f64 t = false
  h2 : fcmp .neq .f64 (fop .sub .f64 t t) 0 = false
  he : fcmp .eql .f64 (fop .sub .f64 t t) 0 = true
  h3 : fcmp .geq .f64 t 4841369599423283200 = false
  h4 : fcmp .leq .f64 t 14064741636278059008 = false
  h5 : floatToIntVal .f64 t .i64 = some 0
  h6 : fcmp .lss .f64 (fop .sub .f64 t 0) 0 = false
  h7 : fcmp .geq .f64 (fop .sub .f64 t 0) 4602678819172646912 = false
  h8 : fcmp .eql .f64 (truncF t) 0 = true
  h9 : fcmp .geq .f64 (absF t) 4841369599423283200 = false
  h10 : okcvt .f64 .f32 (sineV (fop .sub .f64 t 0)) = true
def sineF (x : Nat) : Nat := cvt .f64 .f32 (sineV (fop .sub .f64 (cvt .f32 .f64 x) 0))
theorem absC {w0 : World} {σ : Sg} (t : Nat) (hn : isnan .f64 t = false) :
    FnV Try.prog w0 85 [(.float .f64 t)] σ (.float .f64 (absF t)) := by
  unfold FnV
  refine Fn.of_W 7 Try.func85 rfl Try.ntmps85 rfl ?_
  refine W.seq ?_
  refine W.region ?_
  refine L.v (o_assign (v := (.float .f64 0)) rfl) ?_
  refine L.nil ?_
  refine W.seq ?_
  refine W.region ?_
  refine L.v (o_move (v := (.float .f64 t)) rfl) ?_
  refine L.v (o_ext1 (e := Extern.MathFloatBits.float64bits) Try.func107 (by kernel_rfl) (by kernel_rfl) (by kernel_rfl) (by kernel_rfl) rfl (norm_exact hn) (fun w => rfl)) ?_
  refine L.v (o_iandNot (c := absI t) rfl rfl rfl) ?_
  refine L.v (o_ext1 (e := Extern.MathFloatBits.float64frombits) Try.func106 (by kernel_rfl) (by kernel_rfl) (by kernel_rfl) (by kernel_rfl) rfl norm_exact_int (fun w => rfl)) ?_
  refine L.v (o_assign (v := (.float .f64 (absF t))) rfl) ?_
  refine L.nil ?_
  refine W.ret ?_
  exact RetK.one σ (.float .f64 (absF t)) rfl rfl (Ext.refl _) ⟨rfl, rfl⟩

theorem truncC {w0 : World} {σ : Sg} (t : Nat) (hn : isnan .f64 t = false) :
    FnV Try.prog w0 115 [(.float .f64 t)] σ (.float .f64 (truncF t)) := by
  unfold FnV
  refine Fn.of_W 7 Try.func115 rfl Try.ntmps115 rfl ?_
  refine W.seq ?_
  refine W.region ?_
  refine L.v (o_assign (v := (.float .f64 0)) rfl) ?_
  refine L.nil ?_
  refine W.seq ?_
  refine W.condT (b := true) rfl rfl ?_
  refine W.seq ?_
  refine W.region ?_
  refine L.v (o_move (v := (.float .f64 t)) rfl) ?_
  refine L.v (o_ext1 (e := Extern.MathFloor.toIntegral "math.archTrunc" .zero) Try.func118 (by kernel_rfl) (by kernel_rfl) (by kernel_rfl) (by kernel_rfl) rfl (norm_exact hn) (fun w => trunc_run hn w)) ?_
  refine L.v (o_assign (v := (.float .f64 (truncF t))) rfl) ?_
  refine L.nil ?_
  refine W.ret ?_
  exact RetK.one σ (.float .f64 (truncF t)) rfl rfl (Ext.refl _) ⟨rfl, rfl⟩

theorem isFiniteC {w0 : World} {σ : Sg} (t : Nat) :
    FnV Try.prog w0 83 [(.float .f64 t)] σ (.bool (fcmp .eql .f64 (fop .sub .f64 t t) 0)) := by
  unfold FnV
  refine Fn.of_W 7 Try.func83 rfl Try.ntmps83 rfl ?_
  refine W.seq ?_
  refine W.region ?_
  refine L.v (o_assign (v := (.bool false)) rfl) ?_
  refine L.nil ?_
  refine W.seq ?_
  refine W.region ?_
  refine L.v (o_move (v := (.float .f64 t)) rfl) ?_
  refine L.v (o_move (v := (.float .f64 t)) rfl) ?_
  refine L.v (o_farith (k := .f64) (a := t) (b := t) rfl rfl rfl) ?_
  refine L.v (o_fcmp (k := .f64) (a := fop .sub .f64 t t) (b := 0) rfl rfl rfl rfl) ?_
  refine L.v (o_assign (v := (.bool (fcmp .eql .f64 (fop .sub .f64 t t) 0))) rfl) ?_
  refine L.nil ?_
  refine W.ret ?_
  exact RetK.one σ (.bool (fcmp .eql .f64 (fop .sub .f64 t t) 0)) rfl rfl (Ext.refl _) ⟨rfl, rfl⟩

theorem fractionC {w0 : World} {σ : Sg} (t : Nat) (H : Fine t) :
    FnV Try.prog w0 108 [(.float .f64 t)] σ (.float .f64 (fop .sub .f64 t 0)) := by
  unfold FnV
  refine Fn.of_W 17 Try.func108 rfl Try.ntmps108 rfl ?_
  refine W.seq ?_
  refine W.region ?_
  refine L.v (o_assign (v := (.float .f64 0)) rfl) ?_
  refine L.nil ?_
  refine W.seq ?_
  refine W.region ?_
  refine L.v (o_move (v := (.float .f64 t)) rfl) ?_
  refine L.v (v := (.float .f64 (truncF t))) (op_call [(.float .f64 t)] Try.call115 rfl (truncC t H.h1)) ?_
  refine L.v (o_assign (v := (.float .f64 (truncF t))) rfl) ?_
  refine L.nil ?_
  refine W.seq ?_
  refine W.seq ?_
  refine W.region ?_
  refine L.v (o_move (v := (.float .f64 (truncF t))) rfl) ?_
  refine L.v (o_fcmp (k := .f64) (a := truncF t) (b := 0) rfl rfl rfl rfl) ?_
  refine L.nil ?_
  refine W.condT (b := fcmp .eql .f64 (truncF t) 0) rfl H.h8 ?_
  refine W.region ?_
  refine L.v (o_assign (v := (.float .f64 0)) rfl) ?_
  refine L.nil ?_
  refine W.seq ?_
  refine W.region ?_
  refine L.v (o_move (v := (.float .f64 t)) rfl) ?_
  refine L.v (o_move (v := (.float .f64 0)) rfl) ?_
  refine L.v (o_farith (k := .f64) (a := t) (b := 0) rfl rfl rfl) ?_
  refine L.v (o_assign (v := (.float .f64 (fop .sub .f64 t 0))) rfl) ?_
  refine L.nil ?_
  refine W.seq ?_
  refine W.seq ?_
  refine W.region ?_
  refine L.v (o_move (v := (.float .f64 (fop .sub .f64 t 0))) rfl) ?_
  refine L.v (o_fcmp (k := .f64) (a := fop .sub .f64 t 0) (b := 0) rfl rfl rfl rfl) ?_
  refine L.nil ?_
  refine W.condF (b := fcmp .lss .f64 (fop .sub .f64 t 0) 0) rfl H.h6 ?_
  refine W.skip ?_
  refine W.seq ?_
  refine W.region ?_
  refine L.v (o_move (v := (.float .f64 (fop .sub .f64 t 0))) rfl) ?_
  refine L.v (o_assign (v := (.float .f64 (fop .sub .f64 t 0))) rfl) ?_
  refine L.nil ?_
  refine W.ret ?_
  exact RetK.one σ (.float .f64 (fop .sub .f64 t 0)) rfl rfl (Ext.refl _) ⟨rfl, rfl⟩

theorem specSineW {w0 : World} {σ : Sg} (t : Nat) (H : Fine t) :
    FnV Try.prog w0 81 [(.float .f64 t)] σ (.float .f64 (sineV (fop .sub .f64 t 0))) := by
  unfold FnV
  refine Fn.of_W 67 Try.func81 rfl Try.ntmps81 rfl ?_
  refine W.seq ?_
  refine W.region ?_
  refine L.v (o_assign (v := (.float .f64 0)) rfl) ?_
  refine L.nil ?_
  refine W.seq ?_
  refine W.seq ?_
  refine W.region ?_
  refine L.v (o_move (v := (.float .f64 t)) rfl) ?_
  refine L.v (o_move (v := (.float .f64 t)) rfl) ?_
  refine L.v (o_farith (k := .f64) (a := t) (b := t) rfl rfl rfl) ?_
  refine L.v (o_fcmp (k := .f64) (a := fop .sub .f64 t t) (b := 0) rfl rfl rfl rfl) ?_
  refine L.nil ?_
  refine W.condF (b := fcmp .neq .f64 (fop .sub .f64 t t) 0) rfl H.h2 ?_
  refine W.skip ?_
  refine W.seq ?_
  refine W.seq ?_
  refine W.region ?_
  refine L.v (o_move (v := (.float .f64 t)) rfl) ?_
  refine L.v (o_fcmp (k := .f64) (a := t) (b := 4841369599423283200) rfl rfl rfl rfl) ?_
  refine L.v (o_move (v := (.bool (fcmp .geq .f64 t 4841369599423283200))) rfl) ?_
  refine L.gv (j := 2) (d₁ := 16) (b := fcmp .geq .f64 t 4841369599423283200) rfl rfl rfl H.h3 (o_move (v := (.float .f64 t)) rfl) ?_
  refine L.gv (j := 2) (d₁ := 16) (b := fcmp .geq .f64 t 4841369599423283200) rfl rfl rfl H.h3 (o_fcmp (k := .f64) (a := t) (b := 14064741636278059008) rfl rfl rfl rfl) ?_
  refine L.v (o_pickF (b := fcmp .geq .f64 t 4841369599423283200) (v := (.bool (fcmp .leq .f64 t 14064741636278059008))) rfl H.h3 rfl) ?_
  refine L.nil ?_
  refine W.condF (b := fcmp .leq .f64 t 14064741636278059008) rfl H.h4 ?_
  refine W.skip ?_
  refine W.seq ?_
  refine W.region ?_
  refine L.v (o_move (v := (.float .f64 t)) rfl) ?_
  refine L.v (o_move (v := (.float .f64 t)) rfl) ?_
  refine L.v (o_cvFI (s := .f64) (a := t) (n := 0) (by rw [Try.underlying30]; rfl) Try.underlying2 rfl H.h1 H.h5) ?_
  refine L.v (o_cvI0 (by rw [Try.underlying2]; rfl) Try.underlying30 rfl) ?_
  refine L.v (o_farith (k := .f64) (a := t) (b := 0) rfl rfl rfl) ?_
  refine L.v (o_assign (v := (.float .f64 (fop .sub .f64 t 0))) rfl) ?_
  refine L.nil ?_
  refine W.seq ?_
  refine W.seq ?_
  refine W.region ?_
  refine L.v (o_move (v := (.float .f64 (fop .sub .f64 t 0))) rfl) ?_
  refine L.v (o_fcmp (k := .f64) (a := fop .sub .f64 t 0) (b := 0) rfl rfl rfl rfl) ?_
  refine L.nil ?_
  refine W.condF (b := fcmp .lss .f64 (fop .sub .f64 t 0) 0) rfl H.h6 ?_
  refine W.skip ?_
  refine W.seq ?_
  refine W.region ?_
  refine L.v (o_move (v := (.float .f64 (fop .sub .f64 t 0))) rfl) ?_
  refine L.v (o_fcmp (k := .f64) (a := fop .sub .f64 t 0) (b := 4602678819172646912) rfl rfl rfl rfl) ?_
  refine L.v (o_assign (v := (.bool (fcmp .geq .f64 (fop .sub .f64 t 0) 4602678819172646912))) rfl) ?_
  refine L.nil ?_
  refine W.seq ?_
  refine W.seq ?_
  refine W.region ?_
  refine L.v (o_move (v := (.bool (fcmp .geq .f64 (fop .sub .f64 t 0) 4602678819172646912))) rfl) ?_
  refine L.nil ?_
  refine W.condF (b := fcmp .geq .f64 (fop .sub .f64 t 0) 4602678819172646912) rfl H.h7 ?_
  refine W.skip ?_
  refine W.seq ?_
  refine W.seq ?_
  refine W.region ?_
  refine L.v (o_move (v := (.float .f64 (fop .sub .f64 t 0))) rfl) ?_
  refine L.v (o_fcmp (k := .f64) (a := fop .sub .f64 t 0) (b := 4598175219545276416) rfl rfl rfl rfl) ?_
  refine L.nil ?_
  refine W.cond (b := fcmp .gtr .f64 (fop .sub .f64 t 0) 4598175219545276416) rfl (fun q1 => ?_) (fun q1 => ?_)
  ·
    refine W.region ?_
    refine L.v (o_move (v := (.float .f64 (fop .sub .f64 t 0))) rfl) ?_
    refine L.v (o_farith (k := .f64) (a := 4602678819172646912) (b := fop .sub .f64 t 0) rfl rfl rfl) ?_
    refine L.v (o_assign (v := (.float .f64 (fop .sub .f64 4602678819172646912 (fop .sub .f64 t 0)))) rfl) ?_
    refine L.nil ?_
    refine W.seq ?_
    refine W.region ?_
    refine L.v (o_move (v := (.float .f64 (fop .sub .f64 4602678819172646912 (fop .sub .f64 t 0)))) rfl) ?_
    refine L.v (o_farith (k := .f64) (a := fop .sub .f64 4602678819172646912 (fop .sub .f64 t 0)) (b := 4618760256179416344) rfl rfl rfl) ?_
    refine L.v (o_assign (v := (.float .f64 (fop .mul .f64 (fop .sub .f64 4602678819172646912 (fop .sub .f64 t 0)) 4618760256179416344))) rfl) ?_
    refine L.nil ?_
    refine W.seq ?_
    refine W.region ?_
    refine L.v (o_move (v := (.float .f64 (fop .mul .f64 (fop .sub .f64 4602678819172646912 (fop .sub .f64 t 0)) 4618760256179416344))) rfl) ?_
    refine L.v (o_move (v := (.float .f64 (fop .mul .f64 (fop .sub .f64 4602678819172646912 (fop .sub .f64 t 0)) 4618760256179416344))) rfl) ?_
    refine L.v (o_farith (k := .f64) (a := fop .mul .f64 (fop .sub .f64 4602678819172646912 (fop .sub .f64 t 0)) 4618760256179416344) (b := fop .mul .f64 (fop .sub .f64 4602678819172646912 (fop .sub .f64 t 0)) 4618760256179416344) rfl rfl rfl) ?_
    refine L.v (o_assign (v := (.float .f64 (fop .mul .f64 (fop .mul .f64 (fop .sub .f64 4602678819172646912 (fop .sub .f64 t 0)) 4618760256179416344) (fop .mul .f64 (fop .sub .f64 4602678819172646912 (fop .sub .f64 t 0)) 4618760256179416344)))) rfl) ?_
    refine L.nil ?_
    refine W.seq ?_
    refine W.region ?_
    refine L.v (o_assign (v := (.float .f64 4607182418800017408)) rfl) ?_
    refine L.nil ?_
    refine W.seq ?_
    refine W.seq ?_
    refine W.region ?_
    refine L.v (o_assign (v := (.int .i64 8)) rfl) ?_
    refine L.nil ?_
    refine W.block ?_
    refine W.loop (fun nn tt ss => ∃ (j : Nat), nn = 8 - j ∧ (j ≤ 8) ∧ FrOk tt [(4, (.bool (fcmp .geq .f64 (fop .sub .f64 t 0) 4602678819172646912))), (5, (.float .f64 (fop .mul .f64 (fop .sub .f64 4602678819172646912 (fop .sub .f64 t 0)) 4618760256179416344))), (6, (.float .f64 (fop .mul .f64 (fop .mul .f64 (fop .sub .f64 4602678819172646912 (fop .sub .f64 t 0)) 4618760256179416344) (fop .mul .f64 (fop .sub .f64 4602678819172646912 (fop .sub .f64 t 0)) 4618760256179416344)))), (7, (.float .f64 (sinP (fop .mul .f64 (fop .mul .f64 (fop .sub .f64 4602678819172646912 (fop .sub .f64 t 0)) 4618760256179416344) (fop .mul .f64 (fop .sub .f64 4602678819172646912 (fop .sub .f64 t 0)) 4618760256179416344)) j))), (8, (.int .i64 (((8 - j : Nat) : Int))))] ∧ σ = ss) _ ⟨0, rfl, (by omega), ⟨rfl, rfl, rfl, rfl, rfl, trivial⟩, rfl⟩ ?_
    rintro _ t2 _ ⟨j, rfl, hj, f3, rfl⟩
    rw [← frame_ok f3]
    show W _ _ _ _ _ (upd (upd (upd (upd (upd t2 4 (.bool (fcmp .geq .f64 (fop .sub .f64 t 0) 4602678819172646912))) 5 (.float .f64 (fop .mul .f64 (fop .sub .f64 4602678819172646912 (fop .sub .f64 t 0)) 4618760256179416344))) 6 (.float .f64 (fop .mul .f64 (fop .mul .f64 (fop .sub .f64 4602678819172646912 (fop .sub .f64 t 0)) 4618760256179416344) (fop .mul .f64 (fop .sub .f64 4602678819172646912 (fop .sub .f64 t 0)) 4618760256179416344)))) 7 (.float .f64 (sinP (fop .mul .f64 (fop .mul .f64 (fop .sub .f64 4602678819172646912 (fop .sub .f64 t 0)) 4618760256179416344) (fop .mul .f64 (fop .sub .f64 4602678819172646912 (fop .sub .f64 t 0)) 4618760256179416344)) j))) 8 (.int .i64 (((8 - j : Nat) : Int)))) _
    refine W.seq ?_
    refine W.seq ?_
    refine W.region ?_
    refine L.v (o_move (v := (.int .i64 (((8 - j : Nat) : Int)))) rfl) ?_
    refine L.v (o_igeq (a := ((8 - j : Nat) : Int)) (b := 1) rfl rfl rfl) ?_
    refine L.nil ?_
    refine W.cond (b := decide ((1 : Int) ≤ (((8 - j : Nat) : Int)))) rfl (fun q4 => ?_) (fun q4 => ?_)
    ·
      have a5 : (1 : Int) ≤ (((8 - j : Nat) : Int)) := of_decide_eq_true q4
      refine W.skip ?_
      refine W.seq ?_
      refine W.block ?_
      refine W.region ?_
      refine L.v (o_move (v := (.float .f64 (fop .mul .f64 (fop .mul .f64 (fop .sub .f64 4602678819172646912 (fop .sub .f64 t 0)) 4618760256179416344) (fop .mul .f64 (fop .sub .f64 4602678819172646912 (fop .sub .f64 t 0)) 4618760256179416344)))) rfl) ?_
      refine L.v (o_move (v := (.float .f64 (sinP (fop .mul .f64 (fop .mul .f64 (fop .sub .f64 4602678819172646912 (fop .sub .f64 t 0)) 4618760256179416344) (fop .mul .f64 (fop .sub .f64 4602678819172646912 (fop .sub .f64 t 0)) 4618760256179416344)) j))) rfl) ?_
      refine L.v (o_farith (k := .f64) (a := fop .mul .f64 (fop .mul .f64 (fop .sub .f64 4602678819172646912 (fop .sub .f64 t 0)) 4618760256179416344) (fop .mul .f64 (fop .sub .f64 4602678819172646912 (fop .sub .f64 t 0)) 4618760256179416344)) (b := sinP (fop .mul .f64 (fop .mul .f64 (fop .sub .f64 4602678819172646912 (fop .sub .f64 t 0)) 4618760256179416344) (fop .mul .f64 (fop .sub .f64 4602678819172646912 (fop .sub .f64 t 0)) 4618760256179416344)) j) rfl rfl rfl) ?_
      refine L.v (o_move (v := (.int .i64 (((8 - j : Nat) : Int)))) rfl) ?_
      refine L.v (o_imul (a := 2) (b := ((8 - j : Nat) : Int)) (c := 2 * (((8 - j : Nat) : Int))) rfl rfl (by rw [IntWalk.i64_in _ (by omega)]; try omega)) ?_
      refine L.v (o_move (v := (.int .i64 (((8 - j : Nat) : Int)))) rfl) ?_
      refine L.v (o_imul (a := 2) (b := ((8 - j : Nat) : Int)) (c := 2 * (((8 - j : Nat) : Int))) rfl rfl (by rw [IntWalk.i64_in _ (by omega)]; try omega)) ?_
      refine L.v (o_iadd (a := 2 * (((8 - j : Nat) : Int))) (b := 1) (c := (2 * (((8 - j : Nat) : Int))) + 1) rfl rfl (by rw [IntWalk.i64_in _ (by omega)]; try omega)) ?_
      refine L.v (o_imul (a := 2 * (((8 - j : Nat) : Int))) (b := (2 * (((8 - j : Nat) : Int))) + 1) (c := (((2 * (8 - j)) * (2 * (8 - j) + 1) : Nat) : Int)) rfl rfl (fac_wrap j (by omega))) ?_
      refine L.v (o_cvIF (a := (((2 * (8 - j)) * (2 * (8 - j) + 1) : Nat) : Int)) (by rw [Try.underlying3]; rfl) Try.underlying30 rfl) ?_
      refine L.v (o_farith (k := .f64) (a := fop .mul .f64 (fop .mul .f64 (fop .mul .f64 (fop .sub .f64 4602678819172646912 (fop .sub .f64 t 0)) 4618760256179416344) (fop .mul .f64 (fop .sub .f64 4602678819172646912 (fop .sub .f64 t 0)) 4618760256179416344)) (sinP (fop .mul .f64 (fop .mul .f64 (fop .sub .f64 4602678819172646912 (fop .sub .f64 t 0)) 4618760256179416344) (fop .mul .f64 (fop .sub .f64 4602678819172646912 (fop .sub .f64 t 0)) 4618760256179416344)) j)) (b := FloatKind.nearest .f64 ((((2 * (8 - j)) * (2 * (8 - j) + 1) : Nat) : Int))) rfl rfl rfl) ?_
      refine L.v (o_farith (k := .f64) (a := 4607182418800017408) (b := fop .quo .f64 (fop .mul .f64 (fop .mul .f64 (fop .mul .f64 (fop .sub .f64 4602678819172646912 (fop .sub .f64 t 0)) 4618760256179416344) (fop .mul .f64 (fop .sub .f64 4602678819172646912 (fop .sub .f64 t 0)) 4618760256179416344)) (sinP (fop .mul .f64 (fop .mul .f64 (fop .sub .f64 4602678819172646912 (fop .sub .f64 t 0)) 4618760256179416344) (fop .mul .f64 (fop .sub .f64 4602678819172646912 (fop .sub .f64 t 0)) 4618760256179416344)) j)) (FloatKind.nearest .f64 ((((2 * (8 - j)) * (2 * (8 - j) + 1) : Nat) : Int)))) rfl rfl rfl) ?_
      refine L.v (o_assign (v := (.float .f64 (fop .sub .f64 4607182418800017408 (fop .quo .f64 (fop .mul .f64 (fop .mul .f64 (fop .mul .f64 (fop .sub .f64 4602678819172646912 (fop .sub .f64 t 0)) 4618760256179416344) (fop .mul .f64 (fop .sub .f64 4602678819172646912 (fop .sub .f64 t 0)) 4618760256179416344)) (sinP (fop .mul .f64 (fop .mul .f64 (fop .sub .f64 4602678819172646912 (fop .sub .f64 t 0)) 4618760256179416344) (fop .mul .f64 (fop .sub .f64 4602678819172646912 (fop .sub .f64 t 0)) 4618760256179416344)) j)) (FloatKind.nearest .f64 ((((2 * (8 - j)) * (2 * (8 - j) + 1) : Nat) : Int))))))) rfl) ?_
      refine L.nil ?_
      refine W.region ?_
      refine L.v (o_move (v := (.int .i64 (((8 - j : Nat) : Int)))) rfl) ?_
      refine L.v (o_isub (a := ((8 - j : Nat) : Int)) (b := 1) (c := ((8 - (j + 1) : Nat) : Int)) rfl rfl (by rw [IntWalk.i64_in _ (by omega)]; try omega)) ?_
      refine L.v (o_assign (v := (.int .i64 (((8 - (j + 1) : Nat) : Int)))) rfl) ?_
      refine L.nil ?_
      exact ⟨_, (by omega), j + 1, rfl, (by omega), ⟨rfl, rfl, rfl, rfl, rfl, trivial⟩, rfl⟩
    ·
      have a6 : ¬ ((1 : Int) ≤ (((8 - j : Nat) : Int))) := of_decide_eq_false q4
      refine W.exit ?_
      refine W.seq ?_
      refine W.seq ?_
      obtain rfl : j = 8 := by omega
      refine W.region ?_
      refine L.v (o_move (v := (.bool (fcmp .geq .f64 (fop .sub .f64 t 0) 4602678819172646912))) rfl) ?_
      refine L.nil ?_
      refine W.condF (b := fcmp .geq .f64 (fop .sub .f64 t 0) 4602678819172646912) rfl H.h7 ?_
      refine W.skip ?_
      refine W.seq ?_
      refine W.region ?_
      refine L.v (o_move (v := (.float .f64 (fop .mul .f64 (fop .sub .f64 4602678819172646912 (fop .sub .f64 t 0)) 4618760256179416344))) rfl) ?_
      refine L.v (o_move (v := (.float .f64 (sinP (fop .mul .f64 (fop .mul .f64 (fop .sub .f64 4602678819172646912 (fop .sub .f64 t 0)) 4618760256179416344) (fop .mul .f64 (fop .sub .f64 4602678819172646912 (fop .sub .f64 t 0)) 4618760256179416344)) 8))) rfl) ?_
      refine L.v (o_farith (k := .f64) (a := fop .mul .f64 (fop .sub .f64 4602678819172646912 (fop .sub .f64 t 0)) 4618760256179416344) (b := sinP (fop .mul .f64 (fop .mul .f64 (fop .sub .f64 4602678819172646912 (fop .sub .f64 t 0)) 4618760256179416344) (fop .mul .f64 (fop .sub .f64 4602678819172646912 (fop .sub .f64 t 0)) 4618760256179416344)) 8) rfl rfl rfl) ?_
      refine L.v (o_assign (v := (.float .f64 (fop .mul .f64 (fop .mul .f64 (fop .sub .f64 4602678819172646912 (fop .sub .f64 t 0)) 4618760256179416344) (sinP (fop .mul .f64 (fop .mul .f64 (fop .sub .f64 4602678819172646912 (fop .sub .f64 t 0)) 4618760256179416344) (fop .mul .f64 (fop .sub .f64 4602678819172646912 (fop .sub .f64 t 0)) 4618760256179416344)) 8)))) rfl) ?_
      refine L.nil ?_
      refine W.ret ?_
      exact RetK.one σ (.float .f64 (fop .mul .f64 (fop .mul .f64 (fop .sub .f64 4602678819172646912 (fop .sub .f64 t 0)) 4618760256179416344) (sinP (fop .mul .f64 (fop .mul .f64 (fop .sub .f64 4602678819172646912 (fop .sub .f64 t 0)) 4618760256179416344) (fop .mul .f64 (fop .sub .f64 4602678819172646912 (fop .sub .f64 t 0)) 4618760256179416344)) 8))) rfl rfl (Ext.refl _) ⟨by first | (rw [sineV_t (by assumption)]; rfl) | (rw [sineV_f (by assumption)]; rfl), rfl⟩
  ·
    refine W.skip ?_
    refine W.seq ?_
    refine W.region ?_
    refine L.v (o_move (v := (.float .f64 (fop .sub .f64 t 0))) rfl) ?_
    refine L.v (o_farith (k := .f64) (a := fop .sub .f64 t 0) (b := 4618760256179416344) rfl rfl rfl) ?_
    refine L.v (o_assign (v := (.float .f64 (fop .mul .f64 (fop .sub .f64 t 0) 4618760256179416344))) rfl) ?_
    refine L.nil ?_
    refine W.seq ?_
    refine W.region ?_
    refine L.v (o_move (v := (.float .f64 (fop .mul .f64 (fop .sub .f64 t 0) 4618760256179416344))) rfl) ?_
    refine L.v (o_move (v := (.float .f64 (fop .mul .f64 (fop .sub .f64 t 0) 4618760256179416344))) rfl) ?_
    refine L.v (o_farith (k := .f64) (a := fop .mul .f64 (fop .sub .f64 t 0) 4618760256179416344) (b := fop .mul .f64 (fop .sub .f64 t 0) 4618760256179416344) rfl rfl rfl) ?_
    refine L.v (o_assign (v := (.float .f64 (fop .mul .f64 (fop .mul .f64 (fop .sub .f64 t 0) 4618760256179416344) (fop .mul .f64 (fop .sub .f64 t 0) 4618760256179416344)))) rfl) ?_
    refine L.nil ?_
    refine W.seq ?_
    refine W.region ?_
    refine L.v (o_assign (v := (.float .f64 4607182418800017408)) rfl) ?_
    refine L.nil ?_
    refine W.seq ?_
    refine W.seq ?_
    refine W.region ?_
    refine L.v (o_assign (v := (.int .i64 8)) rfl) ?_
    refine L.nil ?_
    refine W.block ?_
    refine W.loop (fun nn tt ss => ∃ (j : Nat), nn = 8 - j ∧ (j ≤ 8) ∧ FrOk tt [(4, (.bool (fcmp .geq .f64 (fop .sub .f64 t 0) 4602678819172646912))), (5, (.float .f64 (fop .mul .f64 (fop .sub .f64 t 0) 4618760256179416344))), (6, (.float .f64 (fop .mul .f64 (fop .mul .f64 (fop .sub .f64 t 0) 4618760256179416344) (fop .mul .f64 (fop .sub .f64 t 0) 4618760256179416344)))), (7, (.float .f64 (sinP (fop .mul .f64 (fop .mul .f64 (fop .sub .f64 t 0) 4618760256179416344) (fop .mul .f64 (fop .sub .f64 t 0) 4618760256179416344)) j))), (8, (.int .i64 (((8 - j : Nat) : Int))))] ∧ σ = ss) _ ⟨0, rfl, (by omega), ⟨rfl, rfl, rfl, rfl, rfl, trivial⟩, rfl⟩ ?_
    rintro _ t7 _ ⟨j, rfl, hj, f8, rfl⟩
    rw [← frame_ok f8]
    show W _ _ _ _ _ (upd (upd (upd (upd (upd t7 4 (.bool (fcmp .geq .f64 (fop .sub .f64 t 0) 4602678819172646912))) 5 (.float .f64 (fop .mul .f64 (fop .sub .f64 t 0) 4618760256179416344))) 6 (.float .f64 (fop .mul .f64 (fop .mul .f64 (fop .sub .f64 t 0) 4618760256179416344) (fop .mul .f64 (fop .sub .f64 t 0) 4618760256179416344)))) 7 (.float .f64 (sinP (fop .mul .f64 (fop .mul .f64 (fop .sub .f64 t 0) 4618760256179416344) (fop .mul .f64 (fop .sub .f64 t 0) 4618760256179416344)) j))) 8 (.int .i64 (((8 - j : Nat) : Int)))) _
    refine W.seq ?_
    refine W.seq ?_
    refine W.region ?_
    refine L.v (o_move (v := (.int .i64 (((8 - j : Nat) : Int)))) rfl) ?_
    refine L.v (o_igeq (a := ((8 - j : Nat) : Int)) (b := 1) rfl rfl rfl) ?_
    refine L.nil ?_
    refine W.cond (b := decide ((1 : Int) ≤ (((8 - j : Nat) : Int)))) rfl (fun q9 => ?_) (fun q9 => ?_)
    ·
      have a10 : (1 : Int) ≤ (((8 - j : Nat) : Int)) := of_decide_eq_true q9
      refine W.skip ?_
      refine W.seq ?_
      refine W.block ?_
      refine W.region ?_
      refine L.v (o_move (v := (.float .f64 (fop .mul .f64 (fop .mul .f64 (fop .sub .f64 t 0) 4618760256179416344) (fop .mul .f64 (fop .sub .f64 t 0) 4618760256179416344)))) rfl) ?_
      refine L.v (o_move (v := (.float .f64 (sinP (fop .mul .f64 (fop .mul .f64 (fop .sub .f64 t 0) 4618760256179416344) (fop .mul .f64 (fop .sub .f64 t 0) 4618760256179416344)) j))) rfl) ?_
      refine L.v (o_farith (k := .f64) (a := fop .mul .f64 (fop .mul .f64 (fop .sub .f64 t 0) 4618760256179416344) (fop .mul .f64 (fop .sub .f64 t 0) 4618760256179416344)) (b := sinP (fop .mul .f64 (fop .mul .f64 (fop .sub .f64 t 0) 4618760256179416344) (fop .mul .f64 (fop .sub .f64 t 0) 4618760256179416344)) j) rfl rfl rfl) ?_
      refine L.v (o_move (v := (.int .i64 (((8 - j : Nat) : Int)))) rfl) ?_
      refine L.v (o_imul (a := 2) (b := ((8 - j : Nat) : Int)) (c := 2 * (((8 - j : Nat) : Int))) rfl rfl (by rw [IntWalk.i64_in _ (by omega)]; try omega)) ?_
      refine L.v (o_move (v := (.int .i64 (((8 - j : Nat) : Int)))) rfl) ?_
      refine L.v (o_imul (a := 2) (b := ((8 - j : Nat) : Int)) (c := 2 * (((8 - j : Nat) : Int))) rfl rfl (by rw [IntWalk.i64_in _ (by omega)]; try omega)) ?_
      refine L.v (o_iadd (a := 2 * (((8 - j : Nat) : Int))) (b := 1) (c := (2 * (((8 - j : Nat) : Int))) + 1) rfl rfl (by rw [IntWalk.i64_in _ (by omega)]; try omega)) ?_
      refine L.v (o_imul (a := 2 * (((8 - j : Nat) : Int))) (b := (2 * (((8 - j : Nat) : Int))) + 1) (c := (((2 * (8 - j)) * (2 * (8 - j) + 1) : Nat) : Int)) rfl rfl (fac_wrap j (by omega))) ?_
      refine L.v (o_cvIF (a := (((2 * (8 - j)) * (2 * (8 - j) + 1) : Nat) : Int)) (by rw [Try.underlying3]; rfl) Try.underlying30 rfl) ?_
      refine L.v (o_farith (k := .f64) (a := fop .mul .f64 (fop .mul .f64 (fop .mul .f64 (fop .sub .f64 t 0) 4618760256179416344) (fop .mul .f64 (fop .sub .f64 t 0) 4618760256179416344)) (sinP (fop .mul .f64 (fop .mul .f64 (fop .sub .f64 t 0) 4618760256179416344) (fop .mul .f64 (fop .sub .f64 t 0) 4618760256179416344)) j)) (b := FloatKind.nearest .f64 ((((2 * (8 - j)) * (2 * (8 - j) + 1) : Nat) : Int))) rfl rfl rfl) ?_
      refine L.v (o_farith (k := .f64) (a := 4607182418800017408) (b := fop .quo .f64 (fop .mul .f64 (fop .mul .f64 (fop .mul .f64 (fop .sub .f64 t 0) 4618760256179416344) (fop .mul .f64 (fop .sub .f64 t 0) 4618760256179416344)) (sinP (fop .mul .f64 (fop .mul .f64 (fop .sub .f64 t 0) 4618760256179416344) (fop .mul .f64 (fop .sub .f64 t 0) 4618760256179416344)) j)) (FloatKind.nearest .f64 ((((2 * (8 - j)) * (2 * (8 - j) + 1) : Nat) : Int)))) rfl rfl rfl) ?_
      refine L.v (o_assign (v := (.float .f64 (fop .sub .f64 4607182418800017408 (fop .quo .f64 (fop .mul .f64 (fop .mul .f64 (fop .mul .f64 (fop .sub .f64 t 0) 4618760256179416344) (fop .mul .f64 (fop .sub .f64 t 0) 4618760256179416344)) (sinP (fop .mul .f64 (fop .mul .f64 (fop .sub .f64 t 0) 4618760256179416344) (fop .mul .f64 (fop .sub .f64 t 0) 4618760256179416344)) j)) (FloatKind.nearest .f64 ((((2 * (8 - j)) * (2 * (8 - j) + 1) : Nat) : Int))))))) rfl) ?_
      refine L.nil ?_
      refine W.region ?_
      refine L.v (o_move (v := (.int .i64 (((8 - j : Nat) : Int)))) rfl) ?_
      refine L.v (o_isub (a := ((8 - j : Nat) : Int)) (b := 1) (c := ((8 - (j + 1) : Nat) : Int)) rfl rfl (by rw [IntWalk.i64_in _ (by omega)]; try omega)) ?_
      refine L.v (o_assign (v := (.int .i64 (((8 - (j + 1) : Nat) : Int)))) rfl) ?_
      refine L.nil ?_
      exact ⟨_, (by omega), j + 1, rfl, (by omega), ⟨rfl, rfl, rfl, rfl, rfl, trivial⟩, rfl⟩
    ·
      have a11 : ¬ ((1 : Int) ≤ (((8 - j : Nat) : Int))) := of_decide_eq_false q9
      refine W.exit ?_
      refine W.seq ?_
      refine W.seq ?_
      obtain rfl : j = 8 := by omega
      refine W.region ?_
      refine L.v (o_move (v := (.bool (fcmp .geq .f64 (fop .sub .f64 t 0) 4602678819172646912))) rfl) ?_
      refine L.nil ?_
      refine W.condF (b := fcmp .geq .f64 (fop .sub .f64 t 0) 4602678819172646912) rfl H.h7 ?_
      refine W.skip ?_
      refine W.seq ?_
      refine W.region ?_
      refine L.v (o_move (v := (.float .f64 (fop .mul .f64 (fop .sub .f64 t 0) 4618760256179416344))) rfl) ?_
      refine L.v (o_move (v := (.float .f64 (sinP (fop .mul .f64 (fop .mul .f64 (fop .sub .f64 t 0) 4618760256179416344) (fop .mul .f64 (fop .sub .f64 t 0) 4618760256179416344)) 8))) rfl) ?_
      refine L.v (o_farith (k := .f64) (a := fop .mul .f64 (fop .sub .f64 t 0) 4618760256179416344) (b := sinP (fop .mul .f64 (fop .mul .f64 (fop .sub .f64 t 0) 4618760256179416344) (fop .mul .f64 (fop .sub .f64 t 0) 4618760256179416344)) 8) rfl rfl rfl) ?_
      refine L.v (o_assign (v := (.float .f64 (fop .mul .f64 (fop .mul .f64 (fop .sub .f64 t 0) 4618760256179416344) (sinP (fop .mul .f64 (fop .mul .f64 (fop .sub .f64 t 0) 4618760256179416344) (fop .mul .f64 (fop .sub .f64 t 0) 4618760256179416344)) 8)))) rfl) ?_
      refine L.nil ?_
      refine W.ret ?_
      exact RetK.one σ (.float .f64 (fop .mul .f64 (fop .mul .f64 (fop .sub .f64 t 0) 4618760256179416344) (sinP (fop .mul .f64 (fop .mul .f64 (fop .sub .f64 t 0) 4618760256179416344) (fop .mul .f64 (fop .sub .f64 t 0) 4618760256179416344)) 8))) rfl rfl (Ext.refl _) ⟨by first | (rw [sineV_t (by assumption)]; rfl) | (rw [sineV_f (by assumption)]; rfl), rfl⟩

theorem implSineW {w0 : World} {σ : Sg} (t : Nat) (H : Fine t) :
    FnV Try.prog w0 86 [(.float .f64 t)] σ (.float .f64 (sineV (fop .sub .f64 t 0))) := by
  unfold FnV
  refine Fn.of_W 49 Try.func86 rfl Try.ntmps86 rfl ?_
  refine W.seq ?_
  refine W.region ?_
  refine L.v (o_assign (v := (.float .f64 0)) rfl) ?_
  refine L.nil ?_
  refine W.seq ?_
  refine W.region ?_
  refine L.v (o_move (v := (.float .f64 t)) rfl) ?_
  refine L.v (v := (.float .f64 (fop .sub .f64 t 0))) (op_call [(.float .f64 t)] Try.call108 rfl (fractionC t H)) ?_
  refine L.v (o_assign (v := (.float .f64 (fop .sub .f64 t 0))) rfl) ?_
  refine L.nil ?_
  refine W.seq ?_
  refine W.region ?_
  refine L.v (o_move (v := (.float .f64 (fop .sub .f64 t 0))) rfl) ?_
  refine L.v (o_fcmp (k := .f64) (a := fop .sub .f64 t 0) (b := 4602678819172646912) rfl rfl rfl rfl) ?_
  refine L.v (o_assign (v := (.bool (fcmp .geq .f64 (fop .sub .f64 t 0) 4602678819172646912))) rfl) ?_
  refine L.nil ?_
  refine W.seq ?_
  refine W.seq ?_
  refine W.region ?_
  refine L.v (o_move (v := (.bool (fcmp .geq .f64 (fop .sub .f64 t 0) 4602678819172646912))) rfl) ?_
  refine L.nil ?_
  refine W.condF (b := fcmp .geq .f64 (fop .sub .f64 t 0) 4602678819172646912) rfl H.h7 ?_
  refine W.skip ?_
  refine W.seq ?_
  refine W.seq ?_
  refine W.region ?_
  refine L.v (o_move (v := (.float .f64 (fop .sub .f64 t 0))) rfl) ?_
  refine L.v (o_fcmp (k := .f64) (a := fop .sub .f64 t 0) (b := 4598175219545276416) rfl rfl rfl rfl) ?_
  refine L.nil ?_
  refine W.cond (b := fcmp .gtr .f64 (fop .sub .f64 t 0) 4598175219545276416) rfl (fun q1 => ?_) (fun q1 => ?_)
  ·
    refine W.region ?_
    refine L.v (o_move (v := (.float .f64 (fop .sub .f64 t 0))) rfl) ?_
    refine L.v (o_farith (k := .f64) (a := 4602678819172646912) (b := fop .sub .f64 t 0) rfl rfl rfl) ?_
    refine L.v (o_assign (v := (.float .f64 (fop .sub .f64 4602678819172646912 (fop .sub .f64 t 0)))) rfl) ?_
    refine L.nil ?_
    refine W.seq ?_
    refine W.region ?_
    refine L.v (o_move (v := (.float .f64 (fop .sub .f64 4602678819172646912 (fop .sub .f64 t 0)))) rfl) ?_
    refine L.v (o_farith (k := .f64) (a := fop .sub .f64 4602678819172646912 (fop .sub .f64 t 0)) (b := 4618760256179416344) rfl rfl rfl) ?_
    refine L.v (o_assign (v := (.float .f64 (fop .mul .f64 (fop .sub .f64 4602678819172646912 (fop .sub .f64 t 0)) 4618760256179416344))) rfl) ?_
    refine L.nil ?_
    refine W.seq ?_
    refine W.region ?_
    refine L.v (o_move (v := (.float .f64 (fop .mul .f64 (fop .sub .f64 4602678819172646912 (fop .sub .f64 t 0)) 4618760256179416344))) rfl) ?_
    refine L.v (o_move (v := (.float .f64 (fop .mul .f64 (fop .sub .f64 4602678819172646912 (fop .sub .f64 t 0)) 4618760256179416344))) rfl) ?_
    refine L.v (o_farith (k := .f64) (a := fop .mul .f64 (fop .sub .f64 4602678819172646912 (fop .sub .f64 t 0)) 4618760256179416344) (b := fop .mul .f64 (fop .sub .f64 4602678819172646912 (fop .sub .f64 t 0)) 4618760256179416344) rfl rfl rfl) ?_
    refine L.v (o_assign (v := (.float .f64 (fop .mul .f64 (fop .mul .f64 (fop .sub .f64 4602678819172646912 (fop .sub .f64 t 0)) 4618760256179416344) (fop .mul .f64 (fop .sub .f64 4602678819172646912 (fop .sub .f64 t 0)) 4618760256179416344)))) rfl) ?_
    refine L.nil ?_
    refine W.seq ?_
    refine W.region ?_
    refine L.v (o_assign (v := (.float .f64 4607182418800017408)) rfl) ?_
    refine L.nil ?_
    refine W.seq ?_
    refine W.seq ?_
    refine W.region ?_
    refine L.v (o_assign (v := (.int .i64 8)) rfl) ?_
    refine L.nil ?_
    refine W.block ?_
    refine W.loop (fun nn tt ss => ∃ (j : Nat), nn = 8 - j ∧ (j ≤ 8) ∧ FrOk tt [(4, (.bool (fcmp .geq .f64 (fop .sub .f64 t 0) 4602678819172646912))), (5, (.float .f64 (fop .mul .f64 (fop .sub .f64 4602678819172646912 (fop .sub .f64 t 0)) 4618760256179416344))), (6, (.float .f64 (fop .mul .f64 (fop .mul .f64 (fop .sub .f64 4602678819172646912 (fop .sub .f64 t 0)) 4618760256179416344) (fop .mul .f64 (fop .sub .f64 4602678819172646912 (fop .sub .f64 t 0)) 4618760256179416344)))), (7, (.float .f64 (sinP (fop .mul .f64 (fop .mul .f64 (fop .sub .f64 4602678819172646912 (fop .sub .f64 t 0)) 4618760256179416344) (fop .mul .f64 (fop .sub .f64 4602678819172646912 (fop .sub .f64 t 0)) 4618760256179416344)) j))), (8, (.int .i64 (((8 - j : Nat) : Int))))] ∧ σ = ss) _ ⟨0, rfl, (by omega), ⟨rfl, rfl, rfl, rfl, rfl, trivial⟩, rfl⟩ ?_
    rintro _ t2 _ ⟨j, rfl, hj, f3, rfl⟩
    rw [← frame_ok f3]
    show W _ _ _ _ _ (upd (upd (upd (upd (upd t2 4 (.bool (fcmp .geq .f64 (fop .sub .f64 t 0) 4602678819172646912))) 5 (.float .f64 (fop .mul .f64 (fop .sub .f64 4602678819172646912 (fop .sub .f64 t 0)) 4618760256179416344))) 6 (.float .f64 (fop .mul .f64 (fop .mul .f64 (fop .sub .f64 4602678819172646912 (fop .sub .f64 t 0)) 4618760256179416344) (fop .mul .f64 (fop .sub .f64 4602678819172646912 (fop .sub .f64 t 0)) 4618760256179416344)))) 7 (.float .f64 (sinP (fop .mul .f64 (fop .mul .f64 (fop .sub .f64 4602678819172646912 (fop .sub .f64 t 0)) 4618760256179416344) (fop .mul .f64 (fop .sub .f64 4602678819172646912 (fop .sub .f64 t 0)) 4618760256179416344)) j))) 8 (.int .i64 (((8 - j : Nat) : Int)))) _
    refine W.seq ?_
    refine W.seq ?_
    refine W.region ?_
    refine L.v (o_move (v := (.int .i64 (((8 - j : Nat) : Int)))) rfl) ?_
    refine L.v (o_igeq (a := ((8 - j : Nat) : Int)) (b := 1) rfl rfl rfl) ?_
    refine L.nil ?_
    refine W.cond (b := decide ((1 : Int) ≤ (((8 - j : Nat) : Int)))) rfl (fun q4 => ?_) (fun q4 => ?_)
    ·
      have a5 : (1 : Int) ≤ (((8 - j : Nat) : Int)) := of_decide_eq_true q4
      refine W.skip ?_
      refine W.seq ?_
      refine W.block ?_
      refine W.region ?_
      refine L.v (o_move (v := (.float .f64 (fop .mul .f64 (fop .mul .f64 (fop .sub .f64 4602678819172646912 (fop .sub .f64 t 0)) 4618760256179416344) (fop .mul .f64 (fop .sub .f64 4602678819172646912 (fop .sub .f64 t 0)) 4618760256179416344)))) rfl) ?_
      refine L.v (o_move (v := (.float .f64 (sinP (fop .mul .f64 (fop .mul .f64 (fop .sub .f64 4602678819172646912 (fop .sub .f64 t 0)) 4618760256179416344) (fop .mul .f64 (fop .sub .f64 4602678819172646912 (fop .sub .f64 t 0)) 4618760256179416344)) j))) rfl) ?_
      refine L.v (o_farith (k := .f64) (a := fop .mul .f64 (fop .mul .f64 (fop .sub .f64 4602678819172646912 (fop .sub .f64 t 0)) 4618760256179416344) (fop .mul .f64 (fop .sub .f64 4602678819172646912 (fop .sub .f64 t 0)) 4618760256179416344)) (b := sinP (fop .mul .f64 (fop .mul .f64 (fop .sub .f64 4602678819172646912 (fop .sub .f64 t 0)) 4618760256179416344) (fop .mul .f64 (fop .sub .f64 4602678819172646912 (fop .sub .f64 t 0)) 4618760256179416344)) j) rfl rfl rfl) ?_
      refine L.v (o_move (v := (.int .i64 (((8 - j : Nat) : Int)))) rfl) ?_
      refine L.v (o_imul (a := 2) (b := ((8 - j : Nat) : Int)) (c := 2 * (((8 - j : Nat) : Int))) rfl rfl (by rw [IntWalk.i64_in _ (by omega)]; try omega)) ?_
      refine L.v (o_move (v := (.int .i64 (((8 - j : Nat) : Int)))) rfl) ?_
      refine L.v (o_imul (a := 2) (b := ((8 - j : Nat) : Int)) (c := 2 * (((8 - j : Nat) : Int))) rfl rfl (by rw [IntWalk.i64_in _ (by omega)]; try omega)) ?_
      refine L.v (o_iadd (a := 2 * (((8 - j : Nat) : Int))) (b := 1) (c := (2 * (((8 - j : Nat) : Int))) + 1) rfl rfl (by rw [IntWalk.i64_in _ (by omega)]; try omega)) ?_
      refine L.v (o_imul (a := 2 * (((8 - j : Nat) : Int))) (b := (2 * (((8 - j : Nat) : Int))) + 1) (c := (((2 * (8 - j)) * (2 * (8 - j) + 1) : Nat) : Int)) rfl rfl (fac_wrap j (by omega))) ?_
      refine L.v (o_cvIF (a := (((2 * (8 - j)) * (2 * (8 - j) + 1) : Nat) : Int)) (by rw [Try.underlying3]; rfl) Try.underlying30 rfl) ?_
      refine L.v (o_farith (k := .f64) (a := fop .mul .f64 (fop .mul .f64 (fop .mul .f64 (fop .sub .f64 4602678819172646912 (fop .sub .f64 t 0)) 4618760256179416344) (fop .mul .f64 (fop .sub .f64 4602678819172646912 (fop .sub .f64 t 0)) 4618760256179416344)) (sinP (fop .mul .f64 (fop .mul .f64 (fop .sub .f64 4602678819172646912 (fop .sub .f64 t 0)) 4618760256179416344) (fop .mul .f64 (fop .sub .f64 4602678819172646912 (fop .sub .f64 t 0)) 4618760256179416344)) j)) (b := FloatKind.nearest .f64 ((((2 * (8 - j)) * (2 * (8 - j) + 1) : Nat) : Int))) rfl rfl rfl) ?_
      refine L.v (o_farith (k := .f64) (a := 4607182418800017408) (b := fop .quo .f64 (fop .mul .f64 (fop .mul .f64 (fop .mul .f64 (fop .sub .f64 4602678819172646912 (fop .sub .f64 t 0)) 4618760256179416344) (fop .mul .f64 (fop .sub .f64 4602678819172646912 (fop .sub .f64 t 0)) 4618760256179416344)) (sinP (fop .mul .f64 (fop .mul .f64 (fop .sub .f64 4602678819172646912 (fop .sub .f64 t 0)) 4618760256179416344) (fop .mul .f64 (fop .sub .f64 4602678819172646912 (fop .sub .f64 t 0)) 4618760256179416344)) j)) (FloatKind.nearest .f64 ((((2 * (8 - j)) * (2 * (8 - j) + 1) : Nat) : Int)))) rfl rfl rfl) ?_
      refine L.v (o_assign (v := (.float .f64 (fop .sub .f64 4607182418800017408 (fop .quo .f64 (fop .mul .f64 (fop .mul .f64 (fop .mul .f64 (fop .sub .f64 4602678819172646912 (fop .sub .f64 t 0)) 4618760256179416344) (fop .mul .f64 (fop .sub .f64 4602678819172646912 (fop .sub .f64 t 0)) 4618760256179416344)) (sinP (fop .mul .f64 (fop .mul .f64 (fop .sub .f64 4602678819172646912 (fop .sub .f64 t 0)) 4618760256179416344) (fop .mul .f64 (fop .sub .f64 4602678819172646912 (fop .sub .f64 t 0)) 4618760256179416344)) j)) (FloatKind.nearest .f64 ((((2 * (8 - j)) * (2 * (8 - j) + 1) : Nat) : Int))))))) rfl) ?_
      refine L.nil ?_
      refine W.region ?_
      refine L.v (o_move (v := (.int .i64 (((8 - j : Nat) : Int)))) rfl) ?_
      refine L.v (o_isub (a := ((8 - j : Nat) : Int)) (b := 1) (c := ((8 - (j + 1) : Nat) : Int)) rfl rfl (by rw [IntWalk.i64_in _ (by omega)]; try omega)) ?_
      refine L.v (o_assign (v := (.int .i64 (((8 - (j + 1) : Nat) : Int)))) rfl) ?_
      refine L.nil ?_
      exact ⟨_, (by omega), j + 1, rfl, (by omega), ⟨rfl, rfl, rfl, rfl, rfl, trivial⟩, rfl⟩
    ·
      have a6 : ¬ ((1 : Int) ≤ (((8 - j : Nat) : Int))) := of_decide_eq_false q4
      refine W.exit ?_
      refine W.seq ?_
      obtain rfl : j = 8 := by omega
      refine W.region ?_
      refine L.v (o_move (v := (.float .f64 (fop .mul .f64 (fop .sub .f64 4602678819172646912 (fop .sub .f64 t 0)) 4618760256179416344))) rfl) ?_
      refine L.v (o_move (v := (.float .f64 (sinP (fop .mul .f64 (fop .mul .f64 (fop .sub .f64 4602678819172646912 (fop .sub .f64 t 0)) 4618760256179416344) (fop .mul .f64 (fop .sub .f64 4602678819172646912 (fop .sub .f64 t 0)) 4618760256179416344)) 8))) rfl) ?_
      refine L.v (o_farith (k := .f64) (a := fop .mul .f64 (fop .sub .f64 4602678819172646912 (fop .sub .f64 t 0)) 4618760256179416344) (b := sinP (fop .mul .f64 (fop .mul .f64 (fop .sub .f64 4602678819172646912 (fop .sub .f64 t 0)) 4618760256179416344) (fop .mul .f64 (fop .sub .f64 4602678819172646912 (fop .sub .f64 t 0)) 4618760256179416344)) 8) rfl rfl rfl) ?_
      refine L.v (o_assign (v := (.float .f64 (fop .mul .f64 (fop .mul .f64 (fop .sub .f64 4602678819172646912 (fop .sub .f64 t 0)) 4618760256179416344) (sinP (fop .mul .f64 (fop .mul .f64 (fop .sub .f64 4602678819172646912 (fop .sub .f64 t 0)) 4618760256179416344) (fop .mul .f64 (fop .sub .f64 4602678819172646912 (fop .sub .f64 t 0)) 4618760256179416344)) 8)))) rfl) ?_
      refine L.nil ?_
      refine W.seq ?_
      refine W.seq ?_
      refine W.region ?_
      refine L.v (o_move (v := (.bool (fcmp .geq .f64 (fop .sub .f64 t 0) 4602678819172646912))) rfl) ?_
      refine L.nil ?_
      refine W.condF (b := fcmp .geq .f64 (fop .sub .f64 t 0) 4602678819172646912) rfl H.h7 ?_
      refine W.skip ?_
      refine W.seq ?_
      refine W.region ?_
      refine L.v (o_move (v := (.float .f64 (fop .mul .f64 (fop .mul .f64 (fop .sub .f64 4602678819172646912 (fop .sub .f64 t 0)) 4618760256179416344) (sinP (fop .mul .f64 (fop .mul .f64 (fop .sub .f64 4602678819172646912 (fop .sub .f64 t 0)) 4618760256179416344) (fop .mul .f64 (fop .sub .f64 4602678819172646912 (fop .sub .f64 t 0)) 4618760256179416344)) 8)))) rfl) ?_
      refine L.v (o_assign (v := (.float .f64 (fop .mul .f64 (fop .mul .f64 (fop .sub .f64 4602678819172646912 (fop .sub .f64 t 0)) 4618760256179416344) (sinP (fop .mul .f64 (fop .mul .f64 (fop .sub .f64 4602678819172646912 (fop .sub .f64 t 0)) 4618760256179416344) (fop .mul .f64 (fop .sub .f64 4602678819172646912 (fop .sub .f64 t 0)) 4618760256179416344)) 8)))) rfl) ?_
      refine L.nil ?_
      refine W.ret ?_
      exact RetK.one σ (.float .f64 (fop .mul .f64 (fop .mul .f64 (fop .sub .f64 4602678819172646912 (fop .sub .f64 t 0)) 4618760256179416344) (sinP (fop .mul .f64 (fop .mul .f64 (fop .sub .f64 4602678819172646912 (fop .sub .f64 t 0)) 4618760256179416344) (fop .mul .f64 (fop .sub .f64 4602678819172646912 (fop .sub .f64 t 0)) 4618760256179416344)) 8))) rfl rfl (Ext.refl _) ⟨by first | (rw [sineV_t (by assumption)]; rfl) | (rw [sineV_f (by assumption)]; rfl), rfl⟩
  ·
    refine W.skip ?_
    refine W.seq ?_
    refine W.region ?_
    refine L.v (o_move (v := (.float .f64 (fop .sub .f64 t 0))) rfl) ?_
    refine L.v (o_farith (k := .f64) (a := fop .sub .f64 t 0) (b := 4618760256179416344) rfl rfl rfl) ?_
    refine L.v (o_assign (v := (.float .f64 (fop .mul .f64 (fop .sub .f64 t 0) 4618760256179416344))) rfl) ?_
    refine L.nil ?_
    refine W.seq ?_
    refine W.region ?_
    refine L.v (o_move (v := (.float .f64 (fop .mul .f64 (fop .sub .f64 t 0) 4618760256179416344))) rfl) ?_
    refine L.v (o_move (v := (.float .f64 (fop .mul .f64 (fop .sub .f64 t 0) 4618760256179416344))) rfl) ?_
    refine L.v (o_farith (k := .f64) (a := fop .mul .f64 (fop .sub .f64 t 0) 4618760256179416344) (b := fop .mul .f64 (fop .sub .f64 t 0) 4618760256179416344) rfl rfl rfl) ?_
    refine L.v (o_assign (v := (.float .f64 (fop .mul .f64 (fop .mul .f64 (fop .sub .f64 t 0) 4618760256179416344) (fop .mul .f64 (fop .sub .f64 t 0) 4618760256179416344)))) rfl) ?_
    refine L.nil ?_
    refine W.seq ?_
    refine W.region ?_
    refine L.v (o_assign (v := (.float .f64 4607182418800017408)) rfl) ?_
    refine L.nil ?_
    refine W.seq ?_
    refine W.seq ?_
    refine W.region ?_
    refine L.v (o_assign (v := (.int .i64 8)) rfl) ?_
    refine L.nil ?_
    refine W.block ?_
    refine W.loop (fun nn tt ss => ∃ (j : Nat), nn = 8 - j ∧ (j ≤ 8) ∧ FrOk tt [(4, (.bool (fcmp .geq .f64 (fop .sub .f64 t 0) 4602678819172646912))), (5, (.float .f64 (fop .mul .f64 (fop .sub .f64 t 0) 4618760256179416344))), (6, (.float .f64 (fop .mul .f64 (fop .mul .f64 (fop .sub .f64 t 0) 4618760256179416344) (fop .mul .f64 (fop .sub .f64 t 0) 4618760256179416344)))), (7, (.float .f64 (sinP (fop .mul .f64 (fop .mul .f64 (fop .sub .f64 t 0) 4618760256179416344) (fop .mul .f64 (fop .sub .f64 t 0) 4618760256179416344)) j))), (8, (.int .i64 (((8 - j : Nat) : Int))))] ∧ σ = ss) _ ⟨0, rfl, (by omega), ⟨rfl, rfl, rfl, rfl, rfl, trivial⟩, rfl⟩ ?_
    rintro _ t7 _ ⟨j, rfl, hj, f8, rfl⟩
    rw [← frame_ok f8]
    show W _ _ _ _ _ (upd (upd (upd (upd (upd t7 4 (.bool (fcmp .geq .f64 (fop .sub .f64 t 0) 4602678819172646912))) 5 (.float .f64 (fop .mul .f64 (fop .sub .f64 t 0) 4618760256179416344))) 6 (.float .f64 (fop .mul .f64 (fop .mul .f64 (fop .sub .f64 t 0) 4618760256179416344) (fop .mul .f64 (fop .sub .f64 t 0) 4618760256179416344)))) 7 (.float .f64 (sinP (fop .mul .f64 (fop .mul .f64 (fop .sub .f64 t 0) 4618760256179416344) (fop .mul .f64 (fop .sub .f64 t 0) 4618760256179416344)) j))) 8 (.int .i64 (((8 - j : Nat) : Int)))) _
    refine W.seq ?_
    refine W.seq ?_
    refine W.region ?_
    refine L.v (o_move (v := (.int .i64 (((8 - j : Nat) : Int)))) rfl) ?_
    refine L.v (o_igeq (a := ((8 - j : Nat) : Int)) (b := 1) rfl rfl rfl) ?_
    refine L.nil ?_
    refine W.cond (b := decide ((1 : Int) ≤ (((8 - j : Nat) : Int)))) rfl (fun q9 => ?_) (fun q9 => ?_)
    ·
      have a10 : (1 : Int) ≤ (((8 - j : Nat) : Int)) := of_decide_eq_true q9
      refine W.skip ?_
      refine W.seq ?_
      refine W.block ?_
      refine W.region ?_
      refine L.v (o_move (v := (.float .f64 (fop .mul .f64 (fop .mul .f64 (fop .sub .f64 t 0) 4618760256179416344) (fop .mul .f64 (fop .sub .f64 t 0) 4618760256179416344)))) rfl) ?_
      refine L.v (o_move (v := (.float .f64 (sinP (fop .mul .f64 (fop .mul .f64 (fop .sub .f64 t 0) 4618760256179416344) (fop .mul .f64 (fop .sub .f64 t 0) 4618760256179416344)) j))) rfl) ?_
      refine L.v (o_farith (k := .f64) (a := fop .mul .f64 (fop .mul .f64 (fop .sub .f64 t 0) 4618760256179416344) (fop .mul .f64 (fop .sub .f64 t 0) 4618760256179416344)) (b := sinP (fop .mul .f64 (fop .mul .f64 (fop .sub .f64 t 0) 4618760256179416344) (fop .mul .f64 (fop .sub .f64 t 0) 4618760256179416344)) j) rfl rfl rfl) ?_
      refine L.v (o_move (v := (.int .i64 (((8 - j : Nat) : Int)))) rfl) ?_
      refine L.v (o_imul (a := 2) (b := ((8 - j : Nat) : Int)) (c := 2 * (((8 - j : Nat) : Int))) rfl rfl (by rw [IntWalk.i64_in _ (by omega)]; try omega)) ?_
      refine L.v (o_move (v := (.int .i64 (((8 - j : Nat) : Int)))) rfl) ?_
      refine L.v (o_imul (a := 2) (b := ((8 - j : Nat) : Int)) (c := 2 * (((8 - j : Nat) : Int))) rfl rfl (by rw [IntWalk.i64_in _ (by omega)]; try omega)) ?_
      refine L.v (o_iadd (a := 2 * (((8 - j : Nat) : Int))) (b := 1) (c := (2 * (((8 - j : Nat) : Int))) + 1) rfl rfl (by rw [IntWalk.i64_in _ (by omega)]; try omega)) ?_
      refine L.v (o_imul (a := 2 * (((8 - j : Nat) : Int))) (b := (2 * (((8 - j : Nat) : Int))) + 1) (c := (((2 * (8 - j)) * (2 * (8 - j) + 1) : Nat) : Int)) rfl rfl (fac_wrap j (by omega))) ?_
      refine L.v (o_cvIF (a := (((2 * (8 - j)) * (2 * (8 - j) + 1) : Nat) : Int)) (by rw [Try.underlying3]; rfl) Try.underlying30 rfl) ?_
      refine L.v (o_farith (k := .f64) (a := fop .mul .f64 (fop .mul .f64 (fop .mul .f64 (fop .sub .f64 t 0) 4618760256179416344) (fop .mul .f64 (fop .sub .f64 t 0) 4618760256179416344)) (sinP (fop .mul .f64 (fop .mul .f64 (fop .sub .f64 t 0) 4618760256179416344) (fop .mul .f64 (fop .sub .f64 t 0) 4618760256179416344)) j)) (b := FloatKind.nearest .f64 ((((2 * (8 - j)) * (2 * (8 - j) + 1) : Nat) : Int))) rfl rfl rfl) ?_
      refine L.v (o_farith (k := .f64) (a := 4607182418800017408) (b := fop .quo .f64 (fop .mul .f64 (fop .mul .f64 (fop .mul .f64 (fop .sub .f64 t 0) 4618760256179416344) (fop .mul .f64 (fop .sub .f64 t 0) 4618760256179416344)) (sinP (fop .mul .f64 (fop .mul .f64 (fop .sub .f64 t 0) 4618760256179416344) (fop .mul .f64 (fop .sub .f64 t 0) 4618760256179416344)) j)) (FloatKind.nearest .f64 ((((2 * (8 - j)) * (2 * (8 - j) + 1) : Nat) : Int)))) rfl rfl rfl) ?_
      refine L.v (o_assign (v := (.float .f64 (fop .sub .f64 4607182418800017408 (fop .quo .f64 (fop .mul .f64 (fop .mul .f64 (fop .mul .f64 (fop .sub .f64 t 0) 4618760256179416344) (fop .mul .f64 (fop .sub .f64 t 0) 4618760256179416344)) (sinP (fop .mul .f64 (fop .mul .f64 (fop .sub .f64 t 0) 4618760256179416344) (fop .mul .f64 (fop .sub .f64 t 0) 4618760256179416344)) j)) (FloatKind.nearest .f64 ((((2 * (8 - j)) * (2 * (8 - j) + 1) : Nat) : Int))))))) rfl) ?_
      refine L.nil ?_
      refine W.region ?_
      refine L.v (o_move (v := (.int .i64 (((8 - j : Nat) : Int)))) rfl) ?_
      refine L.v (o_isub (a := ((8 - j : Nat) : Int)) (b := 1) (c := ((8 - (j + 1) : Nat) : Int)) rfl rfl (by rw [IntWalk.i64_in _ (by omega)]; try omega)) ?_
      refine L.v (o_assign (v := (.int .i64 (((8 - (j + 1) : Nat) : Int)))) rfl) ?_
      refine L.nil ?_
      exact ⟨_, (by omega), j + 1, rfl, (by omega), ⟨rfl, rfl, rfl, rfl, rfl, trivial⟩, rfl⟩
    ·
      have a11 : ¬ ((1 : Int) ≤ (((8 - j : Nat) : Int))) := of_decide_eq_false q9
      refine W.exit ?_
      refine W.seq ?_
      obtain rfl : j = 8 := by omega
      refine W.region ?_
      refine L.v (o_move (v := (.float .f64 (fop .mul .f64 (fop .sub .f64 t 0) 4618760256179416344))) rfl) ?_
      refine L.v (o_move (v := (.float .f64 (sinP (fop .mul .f64 (fop .mul .f64 (fop .sub .f64 t 0) 4618760256179416344) (fop .mul .f64 (fop .sub .f64 t 0) 4618760256179416344)) 8))) rfl) ?_
      refine L.v (o_farith (k := .f64) (a := fop .mul .f64 (fop .sub .f64 t 0) 4618760256179416344) (b := sinP (fop .mul .f64 (fop .mul .f64 (fop .sub .f64 t 0) 4618760256179416344) (fop .mul .f64 (fop .sub .f64 t 0) 4618760256179416344)) 8) rfl rfl rfl) ?_
      refine L.v (o_assign (v := (.float .f64 (fop .mul .f64 (fop .mul .f64 (fop .sub .f64 t 0) 4618760256179416344) (sinP (fop .mul .f64 (fop .mul .f64 (fop .sub .f64 t 0) 4618760256179416344) (fop .mul .f64 (fop .sub .f64 t 0) 4618760256179416344)) 8)))) rfl) ?_
      refine L.nil ?_
      refine W.seq ?_
      refine W.seq ?_
      refine W.region ?_
      refine L.v (o_move (v := (.bool (fcmp .geq .f64 (fop .sub .f64 t 0) 4602678819172646912))) rfl) ?_
      refine L.nil ?_
      refine W.condF (b := fcmp .geq .f64 (fop .sub .f64 t 0) 4602678819172646912) rfl H.h7 ?_
      refine W.skip ?_
      refine W.seq ?_
      refine W.region ?_
      refine L.v (o_move (v := (.float .f64 (fop .mul .f64 (fop .mul .f64 (fop .sub .f64 t 0) 4618760256179416344) (sinP (fop .mul .f64 (fop .mul .f64 (fop .sub .f64 t 0) 4618760256179416344) (fop .mul .f64 (fop .sub .f64 t 0) 4618760256179416344)) 8)))) rfl) ?_
      refine L.v (o_assign (v := (.float .f64 (fop .mul .f64 (fop .mul .f64 (fop .sub .f64 t 0) 4618760256179416344) (sinP (fop .mul .f64 (fop .mul .f64 (fop .sub .f64 t 0) 4618760256179416344) (fop .mul .f64 (fop .sub .f64 t 0) 4618760256179416344)) 8)))) rfl) ?_
      refine L.nil ?_
      refine W.ret ?_
      exact RetK.one σ (.float .f64 (fop .mul .f64 (fop .mul .f64 (fop .sub .f64 t 0) 4618760256179416344) (sinP (fop .mul .f64 (fop .mul .f64 (fop .sub .f64 t 0) 4618760256179416344) (fop .mul .f64 (fop .sub .f64 t 0) 4618760256179416344)) 8))) rfl rfl (Ext.refl _) ⟨by first | (rw [sineV_t (by assumption)]; rfl) | (rw [sineV_f (by assumption)]; rfl), rfl⟩

theorem narrowC {w0 : World} {σ : Sg} (t : Nat) (hk : okcvt .f64 .f32 t = true) :
    FnV Try.prog w0 80 [(.float .f64 t)] σ (.float .f32 (cvt .f64 .f32 t)) := by
  unfold FnV
  refine Fn.of_W 5 Try.func80 rfl Try.ntmps80 rfl ?_
  refine W.seq ?_
  refine W.region ?_
  refine L.v (o_assign (v := (.float .f32 0)) rfl) ?_
  refine L.nil ?_
  refine W.seq ?_
  refine W.region ?_
  refine L.v (o_move (v := (.float .f64 t)) rfl) ?_
  refine L.v (o_cvFF (s := .f64) (d := .f32) (a := t) (by rw [Try.underlying30]; rfl) Try.underlying24 rfl hk) ?_
  refine L.v (o_assign (v := (.float .f32 (cvt .f64 .f32 t))) rfl) ?_
  refine L.nil ?_
  refine W.ret ?_
  exact RetK.one σ (.float .f32 (cvt .f64 .f32 t)) rfl rfl (Ext.refl _) ⟨rfl, rfl⟩

theorem specSine {w0 : World} {σ : Sg} (x : Nat) (H : Fine (cvt .f32 .f64 x)) :
    FnV Try.prog w0 53 [(.float .f32 x)] σ (.float .f32 (sineF x)) := by
  unfold FnV
  refine Fn.of_W 7 Try.func53 rfl Try.ntmps53 rfl ?_
  refine W.seq ?_
  refine W.region ?_
  refine L.v (o_assign (v := (.float .f32 0)) rfl) ?_
  refine L.nil ?_
  refine W.seq ?_
  refine W.region ?_
  refine L.v (o_move (v := (.float .f32 x)) rfl) ?_
  refine L.v (o_cvFF (s := .f32) (d := .f64) (a := x) (by rw [Try.underlying24]; rfl) Try.underlying30 rfl (okw x)) ?_
  refine L.v (v := (.float .f64 (sineV (fop .sub .f64 (cvt .f32 .f64 x) 0)))) (op_call [(.float .f64 (cvt .f32 .f64 x))] Try.call81 rfl (specSineW (cvt .f32 .f64 x) H)) ?_
  refine L.v (v := (.float .f32 (cvt .f64 .f32 (sineV (fop .sub .f64 (cvt .f32 .f64 x) 0))))) (op_call [(.float .f64 (sineV (fop .sub .f64 (cvt .f32 .f64 x) 0)))] Try.call80 rfl (narrowC (sineV (fop .sub .f64 (cvt .f32 .f64 x) 0)) H.h10)) ?_
  refine L.v (o_assign (v := (.float .f32 (cvt .f64 .f32 (sineV (fop .sub .f64 (cvt .f32 .f64 x) 0))))) rfl) ?_
  refine L.nil ?_
  refine W.ret ?_
  exact RetK.one σ (.float .f32 (cvt .f64 .f32 (sineV (fop .sub .f64 (cvt .f32 .f64 x) 0)))) rfl rfl (Ext.refl _) ⟨rfl, rfl⟩

theorem implSine {w0 : World} {σ : Sg} (x : Nat) (H : Fine (cvt .f32 .f64 x)) :
    FnV Try.prog w0 55 [(.float .f32 x)] σ (.float .f32 (sineF x)) := by
  unfold FnV
  refine Fn.of_W 19 Try.func55 rfl Try.ntmps55 rfl ?_
  refine W.seq ?_
  refine W.region ?_
  refine L.v (o_assign (v := (.float .f32 0)) rfl) ?_
  refine L.nil ?_
  refine W.seq ?_
  refine W.region ?_
  refine L.v (o_move (v := (.float .f32 x)) rfl) ?_
  refine L.v (o_cvFF (s := .f32) (d := .f64) (a := x) (by rw [Try.underlying24]; rfl) Try.underlying30 rfl (okw x)) ?_
  refine L.v (o_assign (v := (.float .f64 (cvt .f32 .f64 x))) rfl) ?_
  refine L.nil ?_
  refine W.seq ?_
  refine W.block ?_
  refine W.seq ?_
  refine W.region ?_
  refine L.v (o_move (v := (.float .f64 (cvt .f32 .f64 x))) rfl) ?_
  refine L.v (v := (.bool (fcmp .eql .f64 (fop .sub .f64 (cvt .f32 .f64 x) (cvt .f32 .f64 x)) 0))) (op_call [(.float .f64 (cvt .f32 .f64 x))] Try.call83 rfl (isFiniteC (cvt .f32 .f64 x))) ?_
  refine L.v (o_not (b := fcmp .eql .f64 (fop .sub .f64 (cvt .f32 .f64 x) (cvt .f32 .f64 x)) 0) rfl rfl) ?_
  refine L.v (o_assign (v := (.bool (!(fcmp .eql .f64 (fop .sub .f64 (cvt .f32 .f64 x) (cvt .f32 .f64 x)) 0)))) rfl) ?_
  refine L.nil ?_
  refine W.condF (b := !(fcmp .eql .f64 (fop .sub .f64 (cvt .f32 .f64 x) (cvt .f32 .f64 x)) 0)) rfl (nb_t H.he) ?_
  refine W.seq ?_
  refine W.region ?_
  refine L.v (o_move (v := (.float .f64 (cvt .f32 .f64 x))) rfl) ?_
  refine L.v (v := (.float .f64 (absF (cvt .f32 .f64 x)))) (op_call [(.float .f64 (cvt .f32 .f64 x))] Try.call85 rfl (absC (cvt .f32 .f64 x) H.h1)) ?_
  refine L.v (o_fcmp (k := .f64) (a := absF (cvt .f32 .f64 x)) (b := 4841369599423283200) rfl rfl rfl rfl) ?_
  refine L.v (o_assign (v := (.bool (fcmp .geq .f64 (absF (cvt .f32 .f64 x)) 4841369599423283200))) rfl) ?_
  refine L.nil ?_
  refine W.condF (b := fcmp .geq .f64 (absF (cvt .f32 .f64 x)) 4841369599423283200) rfl H.h9 ?_
  refine W.skip ?_
  refine W.seq ?_
  refine W.region ?_
  refine L.v (o_move (v := (.float .f64 (cvt .f32 .f64 x))) rfl) ?_
  refine L.v (v := (.float .f64 (sineV (fop .sub .f64 (cvt .f32 .f64 x) 0)))) (op_call [(.float .f64 (cvt .f32 .f64 x))] Try.call86 rfl (implSineW (cvt .f32 .f64 x) H)) ?_
  refine L.v (o_cvFF (s := .f64) (d := .f32) (a := sineV (fop .sub .f64 (cvt .f32 .f64 x) 0)) (by rw [Try.underlying30]; rfl) Try.underlying24 rfl H.h10) ?_
  refine L.v (o_assign (v := (.float .f32 (cvt .f64 .f32 (sineV (fop .sub .f64 (cvt .f32 .f64 x) 0))))) rfl) ?_
  refine L.nil ?_
  refine W.ret ?_
  exact RetK.one σ (.float .f32 (cvt .f64 .f32 (sineV (fop .sub .f64 (cvt .f32 .f64 x) 0)))) rfl rfl (Ext.refl _) ⟨rfl, rfl⟩

end Go.Proofs.Ytnonlibekcacgaa.En
