/- TuneOf in the program and in the reference, and its law. -/
import Derived.Test.YtnonlibekcacgaaStab3
import Derived.Test.YtnonlibekcacgaaAngle
import Derived.Test.YtnonlibekcacgaaRows
namespace Go.Proofs.Ytnonlibekcacgaa.En
open Go
set_option linter.unusedVariables false
set_option maxRecDepth 100000
theorem stableF_no2 {xs : List (Int × Nat × Nat)} (h : stabF (matTo xs xs.length) = false) : stableF xs = false := by rw [stableF, h, Bool.and_false]
theorem stableF_both {xs : List (Int × Nat × Nat)} (h : lineOk xs = true) (h2 : stabF (matTo xs xs.length) = true) : stableF xs = true := by rw [stableF, h, h2]; rfl
theorem half_eq (x : Nat) : fop .mul .f32 1056964608 x = fop .quo .f32 x 1073741824 := by
  have h1 : Ieee.single.read 1056964608 = .number false 8388608 (-24) := by decide +kernel
  have h2 : Ieee.single.read 1073741824 = .number false 8388608 (-22) := by decide +kernel
  unfold fop
  show (((Ieee.single.read 1056964608).product (Ieee.single.read x)).map Ieee.single.write).getD _ = (((Ieee.single.read x).quotient 25 (Ieee.single.read 1073741824)).map Ieee.single.write).getD _
  rw [h1, h2]
  rcases read_single x with ⟨s, t, h⟩ | ⟨s, h⟩ | ⟨s, m, e, h, hm, he⟩
  · rw [h]; rfl
  · rw [h]; cases s <;> rfl
  · rw [h]
    have hl : m.log2 ≤ 23 := by
      by_cases h0 : m = 0
      · subst h0; decide
      · exact log2_lt24 h0 hm
    have h23 : (8388608 : Nat).log2 = 23 := by decide
    obtain ⟨more, hmore⟩ : ∃ more : Nat, more + 23 = 25 + 23 - m.log2 := ⟨25 - m.log2, by omega⟩
    have hq : Ieee.Datum.quotient 25 (.number s m e) (.number false 8388608 (-22)) = some (.number (s ^^ false) (m * 2 ^ (more + 1)) (e - -22 - (more + 23 : Nat) - 1)) := by
      simp only [Ieee.Datum.quotient, h23]
      rw [if_neg (by decide), ← hmore, Nat.shiftLeft_eq, Nat.pow_add, ← Nat.mul_assoc, show (2 : Nat) ^ 23 = 8388608 by decide, Nat.mul_div_cancel _ (by decide), Nat.mul_mod_left]
      have e1 : 2 * (m * 2 ^ more) + ((0 : Nat) != 0).toNat = m * 2 ^ (more + 1) := by
        rw [Nat.pow_succ]
        show 2 * (m * 2 ^ more) + 0 = _
        rw [Nat.add_zero, Nat.mul_comm 2, Nat.mul_assoc]
      rw [e1]
    rw [hq]
    show Ieee.single.nearest (false ^^ s) (8388608 * m) (-24 + e) = Ieee.single.nearest (s ^^ false) (m * 2 ^ (more + 1)) (e - -22 - (more + 23 : Nat) - 1)
    have e2 : (false ^^ s) = s := by cases s <;> rfl
    have e3 : (s ^^ false) = s := by cases s <;> rfl
    rw [e2, e3, Nat.mul_comm 8388608, show (8388608 : Nat) = 2 ^ 23 by decide]
    have n1 := nearest_scale Ieee.single s m 23 (e - 1)
    have n2 := nearest_scale Ieee.single s m (more + 1) (e - 1)
    rw [show (-24 : Int) + e = e - 1 - (23 : Nat) by omega, show e - -22 - ((more + 23 : Nat) : Int) - 1 = e - 1 - (more + 1 : Nat) by omega, n1, n2]
def tuneW (c : Nat) : Nat := angA (cvt .f64 .f32 (sqF (cvt .f32 .f64 (fop .sub .f32 1065353216 (fop .mul .f32 c c))))) c
def tuneV (ms : List Nat) : Nat := if fcmp .lss .f32 (ms.getD 1 0) 0 = true then Op.negFloat .f32 (tuneW (fop .mul .f32 1056964608 (fop .add .f32 (ms.getD 0 0) (ms.getD 3 0)))) else tuneW (fop .mul .f32 1056964608 (fop .add .f32 (ms.getD 0 0) (ms.getD 3 0)))
theorem tuneV_t {ms : List Nat} (h : fcmp .lss .f32 (ms.getD 1 0) 0 = true) : tuneV ms = Op.negFloat .f32 (tuneW (fop .mul .f32 1056964608 (fop .add .f32 (ms.getD 0 0) (ms.getD 3 0)))) := if_pos h
theorem tuneV_f {ms : List Nat} (h : fcmp .lss .f32 (ms.getD 1 0) 0 = false) : tuneV ms = tuneW (fop .mul .f32 1056964608 (fop .add .f32 (ms.getD 0 0) (ms.getD 3 0))) := if_neg (by rw [h]; decide)
def tuneF (xs : List (Int × Nat × Nat)) : Nat := if stableF xs = true then tuneV (matTo xs xs.length) else 0
theorem tuneF_no {xs : List (Int × Nat × Nat)} (h : stableF xs = false) : tuneF xs = 0 := if_neg (by rw [h]; decide)
theorem tuneF_yes {xs : List (Int × Nat × Nat)} (h : stableF xs = true) : tuneF xs = tuneV (matTo xs xs.length) := if_pos h
theorem specTune {w0 : World} {σ : Sg} (p : Option Addr) (c : Nat) (xs : List (Int × Nat × Nat)) (hs : Sl σ 3 p (xs.map el)) (hn : xs.length ≤ 1048576) :
    FnV Try.prog w0 40 [(.slice p xs.length c)] σ (.tuple #[.float .f32 (tuneF xs), .bool (stableF xs)]) := by
  unfold FnV
  refine Fn.of_W 37 Try.func40 rfl Try.ntmps40 rfl ?_
  refine W.seq ?_
  refine W.region ?_
  refine L.v (o_assign (v := (.float .f32 0)) rfl) ?_
  refine L.v (o_assign (v := (.bool false)) rfl) ?_
  refine L.nil ?_
  refine W.seq ?_
  refine W.seq ?_
  refine W.region ?_
  refine L.v (o_move (v := (.slice p xs.length c)) rfl) ?_
  refine L.v (v := (.bool (lineOk xs))) (op_call [(.slice p xs.length c)] Try.call67 rfl (specLine p c xs hs (by omega))) ?_
  refine L.v (o_not (b := lineOk xs) rfl rfl) ?_
  refine L.nil ?_
  refine W.cond (b := !(lineOk xs)) rfl (fun q1 => ?_) (fun q1 => ?_)
  ·
    refine W.seq ?_
    refine W.region ?_
    refine L.v (o_assign (v := (.float .f32 0)) rfl) ?_
    refine L.v (o_assign (v := (.bool false)) rfl) ?_
    refine L.nil ?_
    refine W.ret ?_
    exact RetK.two σ (.float .f32 0) (.bool false) rfl rfl rfl rfl rfl (Ext.refl _) ⟨by rw [tuneF_no (stableF_no (bn_t q1)), (stableF_no (bn_t q1))], rfl⟩
  ·
    refine W.skip ?_
    refine W.seq ?_
    refine W.region ?_
    refine L.v (o_move (v := (.slice p xs.length c)) rfl) ?_
    refine L.cons (op_call [(.slice p xs.length c)] Try.call68 rfl (specMatrix p c xs hs (by omega))) ?_
    rintro _ s4 ⟨p2, c3, rfl, fs5⟩
    have ap6 : Apart (4) (xs.length) p2 p := by simpa using Fsl.apart fs5 hs (el_ne _)
    have hs7 := Sl.ext hs fs5.ext
    have ex8 := Ext.trans (Ext.refl σ) fs5.ext
    have mu9 := Fsl.mut fs5 (4) (by simp)
    refine L.v (o_assign (v := (.slice p2 4 c3)) rfl) ?_
    refine L.nil ?_
    refine W.seq ?_
    refine W.seq ?_
    refine W.region ?_
    refine L.v (o_move (v := (.slice p2 4 c3)) rfl) ?_
    refine L.v (v := (.bool (stabF (matTo xs xs.length)))) (op_call [(.slice p2 4 c3)] Try.call69 rfl (specStab p2 c3 (matTo xs xs.length) (Fsl.reads fs5) (matTo_len _ _))) ?_
    refine L.v (o_not (b := stabF (matTo xs xs.length)) rfl rfl) ?_
    refine L.nil ?_
    refine W.cond (b := !(stabF (matTo xs xs.length))) rfl (fun q10 => ?_) (fun q10 => ?_)
    ·
      refine W.seq ?_
      refine W.region ?_
      refine L.v (o_assign (v := (.float .f32 0)) rfl) ?_
      refine L.v (o_assign (v := (.bool false)) rfl) ?_
      refine L.nil ?_
      refine W.ret ?_
      exact RetK.two σ (.float .f32 0) (.bool false) rfl rfl rfl rfl rfl ex8 ⟨by rw [tuneF_no (stableF_no2 (bn_t q10)), (stableF_no2 (bn_t q10))], rfl⟩
    ·
      refine W.skip ?_
      refine W.seq ?_
      obtain ⟨b, o, rfl, _⟩ := (Fsl.reads fs5).elem 0 (by simp) 0
      refine W.draw [true, true, true, true, true, true, true, true, true] (fun s => s = s4) (by kernel_rfl) (by kernel_rfl) ?_
      refine DL.v (fun _ hD => by cases hD; exact o_move (v := (.slice (some ⟨b, o, none⟩) 4 c3)) rfl) ?_
      refine DL.v (fun _ hD => by cases hD; exact o_indexAddr (b := b) (off := o) (n := 4) (c := c3) 0 Try.underlying32 Try.sizeOf24 rfl rfl (by omega)) ?_
      refine DL.v (fun _ hD => by cases hD; exact o_load (b := b) (off := o + 0 * 1) (v := (.float .f32 ((matTo xs xs.length).getD 0 0))) Try.isAgg24 rfl (Rds.fst (Sl.at (Fsl.reads fs5) 0 (by simp) 0)) rfl) ?_
      refine DL.v (fun _ hD => by cases hD; exact o_move (v := (.slice (some ⟨b, o, none⟩) 4 c3)) rfl) ?_
      refine DL.v (fun _ hD => by cases hD; exact o_indexAddr (b := b) (off := o) (n := 4) (c := c3) 3 Try.underlying32 Try.sizeOf24 rfl rfl (by omega)) ?_
      refine DL.v (fun _ hD => by cases hD; exact o_load (b := b) (off := o + 3 * 1) (v := (.float .f32 ((matTo xs xs.length).getD 3 0))) Try.isAgg24 rfl (Rds.fst (Sl.at (Fsl.reads fs5) 3 (by simp) 0)) rfl) ?_
      refine DL.v (fun _ hD => by cases hD; exact o_farith (k := .f32) (a := (matTo xs xs.length).getD 0 0) (b := (matTo xs xs.length).getD 3 0) rfl rfl rfl) ?_
      refine DL.v (fun _ hD => by cases hD; exact o_farith (k := .f32) (a := 1056964608) (b := fop .add .f32 ((matTo xs xs.length).getD 0 0) ((matTo xs xs.length).getD 3 0)) rfl rfl rfl) ?_
      refine DL.v (fun _ hD => by cases hD; exact o_assign (v := (.float .f32 (fop .mul .f32 1056964608 (fop .add .f32 ((matTo xs xs.length).getD 0 0) ((matTo xs xs.length).getD 3 0))))) rfl) ?_
      refine DL.nil rfl ?_
      refine W.seq ?_
      refine W.region ?_
      refine L.v (o_move (v := (.float .f32 (fop .mul .f32 1056964608 (fop .add .f32 ((matTo xs xs.length).getD 0 0) ((matTo xs xs.length).getD 3 0))))) rfl) ?_
      refine L.v (o_move (v := (.float .f32 (fop .mul .f32 1056964608 (fop .add .f32 ((matTo xs xs.length).getD 0 0) ((matTo xs xs.length).getD 3 0))))) rfl) ?_
      refine L.v (o_farith (k := .f32) (a := fop .mul .f32 1056964608 (fop .add .f32 ((matTo xs xs.length).getD 0 0) ((matTo xs xs.length).getD 3 0))) (b := fop .mul .f32 1056964608 (fop .add .f32 ((matTo xs xs.length).getD 0 0) ((matTo xs xs.length).getD 3 0))) rfl rfl rfl) ?_
      refine L.v (o_farith (k := .f32) (a := 1065353216) (b := fop .mul .f32 (fop .mul .f32 1056964608 (fop .add .f32 ((matTo xs xs.length).getD 0 0) ((matTo xs xs.length).getD 3 0))) (fop .mul .f32 1056964608 (fop .add .f32 ((matTo xs xs.length).getD 0 0) ((matTo xs xs.length).getD 3 0)))) rfl rfl rfl) ?_
      refine L.v (v := (.float .f32 (cvt .f64 .f32 (sqF (cvt .f32 .f64 (fop .sub .f32 1065353216 (fop .mul .f32 (fop .mul .f32 1056964608 (fop .add .f32 ((matTo xs xs.length).getD 0 0) ((matTo xs xs.length).getD 3 0))) (fop .mul .f32 1056964608 (fop .add .f32 ((matTo xs xs.length).getD 0 0) ((matTo xs xs.length).getD 3 0)))))))))) (op_call [(.float .f32 (fop .sub .f32 1065353216 (fop .mul .f32 (fop .mul .f32 1056964608 (fop .add .f32 ((matTo xs xs.length).getD 0 0) ((matTo xs xs.length).getD 3 0))) (fop .mul .f32 1056964608 (fop .add .f32 ((matTo xs xs.length).getD 0 0) ((matTo xs xs.length).getD 3 0))))))] Try.call71 rfl (specSqrt (fop .sub .f32 1065353216 (fop .mul .f32 (fop .mul .f32 1056964608 (fop .add .f32 ((matTo xs xs.length).getD 0 0) ((matTo xs xs.length).getD 3 0))) (fop .mul .f32 1056964608 (fop .add .f32 ((matTo xs xs.length).getD 0 0) ((matTo xs xs.length).getD 3 0))))))) ?_
      refine L.v (o_move (v := (.float .f32 (fop .mul .f32 1056964608 (fop .add .f32 ((matTo xs xs.length).getD 0 0) ((matTo xs xs.length).getD 3 0))))) rfl) ?_
      refine L.v (v := (.float .f32 (angA (cvt .f64 .f32 (sqF (cvt .f32 .f64 (fop .sub .f32 1065353216 (fop .mul .f32 (fop .mul .f32 1056964608 (fop .add .f32 ((matTo xs xs.length).getD 0 0) ((matTo xs xs.length).getD 3 0))) (fop .mul .f32 1056964608 (fop .add .f32 ((matTo xs xs.length).getD 0 0) ((matTo xs xs.length).getD 3 0)))))))) (fop .mul .f32 1056964608 (fop .add .f32 ((matTo xs xs.length).getD 0 0) ((matTo xs xs.length).getD 3 0)))))) (op_call [(.float .f32 (cvt .f64 .f32 (sqF (cvt .f32 .f64 (fop .sub .f32 1065353216 (fop .mul .f32 (fop .mul .f32 1056964608 (fop .add .f32 ((matTo xs xs.length).getD 0 0) ((matTo xs xs.length).getD 3 0))) (fop .mul .f32 1056964608 (fop .add .f32 ((matTo xs xs.length).getD 0 0) ((matTo xs xs.length).getD 3 0))))))))), (.float .f32 (fop .mul .f32 1056964608 (fop .add .f32 ((matTo xs xs.length).getD 0 0) ((matTo xs xs.length).getD 3 0))))] Try.call70 rfl (specAng (cvt .f64 .f32 (sqF (cvt .f32 .f64 (fop .sub .f32 1065353216 (fop .mul .f32 (fop .mul .f32 1056964608 (fop .add .f32 ((matTo xs xs.length).getD 0 0) ((matTo xs xs.length).getD 3 0))) (fop .mul .f32 1056964608 (fop .add .f32 ((matTo xs xs.length).getD 0 0) ((matTo xs xs.length).getD 3 0)))))))) (fop .mul .f32 1056964608 (fop .add .f32 ((matTo xs xs.length).getD 0 0) ((matTo xs xs.length).getD 3 0))))) ?_
      refine L.v (o_assign (v := (.float .f32 (angA (cvt .f64 .f32 (sqF (cvt .f32 .f64 (fop .sub .f32 1065353216 (fop .mul .f32 (fop .mul .f32 1056964608 (fop .add .f32 ((matTo xs xs.length).getD 0 0) ((matTo xs xs.length).getD 3 0))) (fop .mul .f32 1056964608 (fop .add .f32 ((matTo xs xs.length).getD 0 0) ((matTo xs xs.length).getD 3 0)))))))) (fop .mul .f32 1056964608 (fop .add .f32 ((matTo xs xs.length).getD 0 0) ((matTo xs xs.length).getD 3 0)))))) rfl) ?_
      refine L.nil ?_
      refine W.seq ?_
      refine W.seq ?_
      refine W.region ?_
      refine L.v (o_move (v := (.slice (some ⟨b, o, none⟩) 4 c3)) rfl) ?_
      refine L.v (o_indexAddr (b := b) (off := o) (n := 4) (c := c3) 1 Try.underlying32 Try.sizeOf24 rfl rfl (by omega)) ?_
      refine L.v (o_load (b := b) (off := o + 1 * 1) (v := (.float .f32 ((matTo xs xs.length).getD 1 0))) Try.isAgg24 rfl (Rds.fst (Sl.at (Fsl.reads fs5) 1 (by simp) 0)) rfl) ?_
      refine L.v (o_fcmp (k := .f32) (a := (matTo xs xs.length).getD 1 0) (b := 0) rfl rfl rfl rfl) ?_
      refine L.nil ?_
      refine W.cond (b := fcmp .lss .f32 ((matTo xs xs.length).getD 1 0) 0) rfl (fun q11 => ?_) (fun q11 => ?_)
      ·
        refine W.seq ?_
        refine W.region ?_
        refine L.v (o_move (v := (.float .f32 (angA (cvt .f64 .f32 (sqF (cvt .f32 .f64 (fop .sub .f32 1065353216 (fop .mul .f32 (fop .mul .f32 1056964608 (fop .add .f32 ((matTo xs xs.length).getD 0 0) ((matTo xs xs.length).getD 3 0))) (fop .mul .f32 1056964608 (fop .add .f32 ((matTo xs xs.length).getD 0 0) ((matTo xs xs.length).getD 3 0)))))))) (fop .mul .f32 1056964608 (fop .add .f32 ((matTo xs xs.length).getD 0 0) ((matTo xs xs.length).getD 3 0)))))) rfl) ?_
        refine L.v (o_fneg (k := .f32) (a := angA (cvt .f64 .f32 (sqF (cvt .f32 .f64 (fop .sub .f32 1065353216 (fop .mul .f32 (fop .mul .f32 1056964608 (fop .add .f32 ((matTo xs xs.length).getD 0 0) ((matTo xs xs.length).getD 3 0))) (fop .mul .f32 1056964608 (fop .add .f32 ((matTo xs xs.length).getD 0 0) ((matTo xs xs.length).getD 3 0)))))))) (fop .mul .f32 1056964608 (fop .add .f32 ((matTo xs xs.length).getD 0 0) ((matTo xs xs.length).getD 3 0)))) rfl) ?_
        refine L.v (o_assign (v := (.float .f32 (Op.negFloat .f32 (angA (cvt .f64 .f32 (sqF (cvt .f32 .f64 (fop .sub .f32 1065353216 (fop .mul .f32 (fop .mul .f32 1056964608 (fop .add .f32 ((matTo xs xs.length).getD 0 0) ((matTo xs xs.length).getD 3 0))) (fop .mul .f32 1056964608 (fop .add .f32 ((matTo xs xs.length).getD 0 0) ((matTo xs xs.length).getD 3 0)))))))) (fop .mul .f32 1056964608 (fop .add .f32 ((matTo xs xs.length).getD 0 0) ((matTo xs xs.length).getD 3 0))))))) rfl) ?_
        refine L.v (o_assign (v := (.bool true)) rfl) ?_
        refine L.nil ?_
        refine W.ret ?_
        exact RetK.two σ (.float .f32 (Op.negFloat .f32 (angA (cvt .f64 .f32 (sqF (cvt .f32 .f64 (fop .sub .f32 1065353216 (fop .mul .f32 (fop .mul .f32 1056964608 (fop .add .f32 ((matTo xs xs.length).getD 0 0) ((matTo xs xs.length).getD 3 0))) (fop .mul .f32 1056964608 (fop .add .f32 ((matTo xs xs.length).getD 0 0) ((matTo xs xs.length).getD 3 0)))))))) (fop .mul .f32 1056964608 (fop .add .f32 ((matTo xs xs.length).getD 0 0) ((matTo xs xs.length).getD 3 0)))))) (.bool true) rfl rfl rfl rfl rfl ex8 ⟨by first | (rw [tuneF_yes (stableF_both (bn_f q1) (bn_f q10)), (stableF_both (bn_f q1) (bn_f q10)), tuneV_t (by assumption), tuneW]; done) | (rw [tuneF_yes (stableF_both (bn_f q1) (bn_f q10)), (stableF_both (bn_f q1) (bn_f q10)), tuneV_f (by assumption), tuneW]; done), rfl⟩
      ·
        refine W.skip ?_
        refine W.seq ?_
        refine W.region ?_
        refine L.v (o_move (v := (.float .f32 (angA (cvt .f64 .f32 (sqF (cvt .f32 .f64 (fop .sub .f32 1065353216 (fop .mul .f32 (fop .mul .f32 1056964608 (fop .add .f32 ((matTo xs xs.length).getD 0 0) ((matTo xs xs.length).getD 3 0))) (fop .mul .f32 1056964608 (fop .add .f32 ((matTo xs xs.length).getD 0 0) ((matTo xs xs.length).getD 3 0)))))))) (fop .mul .f32 1056964608 (fop .add .f32 ((matTo xs xs.length).getD 0 0) ((matTo xs xs.length).getD 3 0)))))) rfl) ?_
        refine L.v (o_assign (v := (.float .f32 (angA (cvt .f64 .f32 (sqF (cvt .f32 .f64 (fop .sub .f32 1065353216 (fop .mul .f32 (fop .mul .f32 1056964608 (fop .add .f32 ((matTo xs xs.length).getD 0 0) ((matTo xs xs.length).getD 3 0))) (fop .mul .f32 1056964608 (fop .add .f32 ((matTo xs xs.length).getD 0 0) ((matTo xs xs.length).getD 3 0)))))))) (fop .mul .f32 1056964608 (fop .add .f32 ((matTo xs xs.length).getD 0 0) ((matTo xs xs.length).getD 3 0)))))) rfl) ?_
        refine L.v (o_assign (v := (.bool true)) rfl) ?_
        refine L.nil ?_
        refine W.ret ?_
        exact RetK.two σ (.float .f32 (angA (cvt .f64 .f32 (sqF (cvt .f32 .f64 (fop .sub .f32 1065353216 (fop .mul .f32 (fop .mul .f32 1056964608 (fop .add .f32 ((matTo xs xs.length).getD 0 0) ((matTo xs xs.length).getD 3 0))) (fop .mul .f32 1056964608 (fop .add .f32 ((matTo xs xs.length).getD 0 0) ((matTo xs xs.length).getD 3 0)))))))) (fop .mul .f32 1056964608 (fop .add .f32 ((matTo xs xs.length).getD 0 0) ((matTo xs xs.length).getD 3 0))))) (.bool true) rfl rfl rfl rfl rfl ex8 ⟨by first | (rw [tuneF_yes (stableF_both (bn_f q1) (bn_f q10)), (stableF_both (bn_f q1) (bn_f q10)), tuneV_t (by assumption), tuneW]; done) | (rw [tuneF_yes (stableF_both (bn_f q1) (bn_f q10)), (stableF_both (bn_f q1) (bn_f q10)), tuneV_f (by assumption), tuneW]; done), rfl⟩

theorem implTune {w0 : World} {σ : Sg} (p : Option Addr) (c : Nat) (xs : List (Int × Nat × Nat)) (hs : Sl σ 3 p (xs.map el)) (hn : xs.length ≤ 1048576) :
    FnV Try.prog w0 42 [(.slice p xs.length c)] σ (.tuple #[.float .f32 (tuneF xs), .bool (stableF xs)]) := by
  unfold FnV
  refine Fn.of_W 34 Try.func42 rfl Try.ntmps42 rfl ?_
  refine W.seq ?_
  refine W.region ?_
  refine L.v (o_assign (v := (.float .f32 0)) rfl) ?_
  refine L.v (o_assign (v := (.bool false)) rfl) ?_
  refine L.nil ?_
  refine W.seq ?_
  refine W.seq ?_
  refine W.region ?_
  refine L.v (o_move (v := (.slice p xs.length c)) rfl) ?_
  refine L.v (v := (.bool (stableF xs))) (op_call [(.slice p xs.length c)] Try.call73 rfl (implIsSt p c xs hs (by omega))) ?_
  refine L.v (o_not (b := stableF xs) rfl rfl) ?_
  refine L.nil ?_
  refine W.cond (b := !(stableF xs)) rfl (fun q1 => ?_) (fun q1 => ?_)
  ·
    refine W.seq ?_
    refine W.region ?_
    refine L.v (o_assign (v := (.float .f32 0)) rfl) ?_
    refine L.v (o_assign (v := (.bool false)) rfl) ?_
    refine L.nil ?_
    refine W.ret ?_
    exact RetK.two σ (.float .f32 0) (.bool false) rfl rfl rfl rfl rfl (Ext.refl _) ⟨by rw [tuneF_no ((bn_t q1)), ((bn_t q1))], rfl⟩
  ·
    refine W.skip ?_
    refine W.seq ?_
    refine W.region ?_
    refine L.v (o_move (v := (.slice p xs.length c)) rfl) ?_
    refine L.cons (op_call [(.slice p xs.length c)] Try.call74 rfl (implMatrix p c xs hs (by omega))) ?_
    rintro _ s4 ⟨p2, c3, rfl, fs5⟩
    have ap6 : Apart (4) (xs.length) p2 p := by simpa using Fsl.apart fs5 hs (el_ne _)
    have hs7 := Sl.ext hs fs5.ext
    have ex8 := Ext.trans (Ext.refl σ) fs5.ext
    have mu9 := Fsl.mut fs5 (4) (by simp)
    refine L.v (o_assign (v := (.slice p2 4 c3)) rfl) ?_
    refine L.nil ?_
    refine W.seq ?_
    obtain ⟨b, o, rfl, _⟩ := (Fsl.reads fs5).elem 0 (by simp) 0
    refine W.draw [true, true, true, true, true, true, true, true, true] (fun s => s = s4) (by kernel_rfl) (by kernel_rfl) ?_
    refine DL.v (fun _ hD => by cases hD; exact o_move (v := (.slice (some ⟨b, o, none⟩) 4 c3)) rfl) ?_
    refine DL.v (fun _ hD => by cases hD; exact o_indexAddr (b := b) (off := o) (n := 4) (c := c3) 0 Try.underlying32 Try.sizeOf24 rfl rfl (by omega)) ?_
    refine DL.v (fun _ hD => by cases hD; exact o_load (b := b) (off := o + 0 * 1) (v := (.float .f32 ((matTo xs xs.length).getD 0 0))) Try.isAgg24 rfl (Rds.fst (Sl.at (Fsl.reads fs5) 0 (by simp) 0)) rfl) ?_
    refine DL.v (fun _ hD => by cases hD; exact o_move (v := (.slice (some ⟨b, o, none⟩) 4 c3)) rfl) ?_
    refine DL.v (fun _ hD => by cases hD; exact o_indexAddr (b := b) (off := o) (n := 4) (c := c3) 3 Try.underlying32 Try.sizeOf24 rfl rfl (by omega)) ?_
    refine DL.v (fun _ hD => by cases hD; exact o_load (b := b) (off := o + 3 * 1) (v := (.float .f32 ((matTo xs xs.length).getD 3 0))) Try.isAgg24 rfl (Rds.fst (Sl.at (Fsl.reads fs5) 3 (by simp) 0)) rfl) ?_
    refine DL.v (fun _ hD => by cases hD; exact o_farith (k := .f32) (a := (matTo xs xs.length).getD 0 0) (b := (matTo xs xs.length).getD 3 0) rfl rfl rfl) ?_
    refine DL.v (fun _ hD => by cases hD; exact o_farith (k := .f32) (a := fop .add .f32 ((matTo xs xs.length).getD 0 0) ((matTo xs xs.length).getD 3 0)) (b := 1073741824) rfl rfl rfl) ?_
    refine DL.v (fun _ hD => by cases hD; exact o_assign (v := (.float .f32 (fop .quo .f32 (fop .add .f32 ((matTo xs xs.length).getD 0 0) ((matTo xs xs.length).getD 3 0)) 1073741824))) rfl) ?_
    refine DL.nil rfl ?_
    refine W.seq ?_
    refine W.region ?_
    refine L.v (o_move (v := (.float .f32 (fop .quo .f32 (fop .add .f32 ((matTo xs xs.length).getD 0 0) ((matTo xs xs.length).getD 3 0)) 1073741824))) rfl) ?_
    refine L.v (o_move (v := (.float .f32 (fop .quo .f32 (fop .add .f32 ((matTo xs xs.length).getD 0 0) ((matTo xs xs.length).getD 3 0)) 1073741824))) rfl) ?_
    refine L.v (o_farith (k := .f32) (a := fop .quo .f32 (fop .add .f32 ((matTo xs xs.length).getD 0 0) ((matTo xs xs.length).getD 3 0)) 1073741824) (b := fop .quo .f32 (fop .add .f32 ((matTo xs xs.length).getD 0 0) ((matTo xs xs.length).getD 3 0)) 1073741824) rfl rfl rfl) ?_
    refine L.v (o_farith (k := .f32) (a := 1065353216) (b := fop .mul .f32 (fop .quo .f32 (fop .add .f32 ((matTo xs xs.length).getD 0 0) ((matTo xs xs.length).getD 3 0)) 1073741824) (fop .quo .f32 (fop .add .f32 ((matTo xs xs.length).getD 0 0) ((matTo xs xs.length).getD 3 0)) 1073741824)) rfl rfl rfl) ?_
    refine L.v (v := (.float .f32 (cvt .f64 .f32 (sqF (cvt .f32 .f64 (fop .sub .f32 1065353216 (fop .mul .f32 (fop .quo .f32 (fop .add .f32 ((matTo xs xs.length).getD 0 0) ((matTo xs xs.length).getD 3 0)) 1073741824) (fop .quo .f32 (fop .add .f32 ((matTo xs xs.length).getD 0 0) ((matTo xs xs.length).getD 3 0)) 1073741824)))))))) (op_call [(.float .f32 (fop .sub .f32 1065353216 (fop .mul .f32 (fop .quo .f32 (fop .add .f32 ((matTo xs xs.length).getD 0 0) ((matTo xs xs.length).getD 3 0)) 1073741824) (fop .quo .f32 (fop .add .f32 ((matTo xs xs.length).getD 0 0) ((matTo xs xs.length).getD 3 0)) 1073741824))))] Try.call76 rfl (implSqrt (fop .sub .f32 1065353216 (fop .mul .f32 (fop .quo .f32 (fop .add .f32 ((matTo xs xs.length).getD 0 0) ((matTo xs xs.length).getD 3 0)) 1073741824) (fop .quo .f32 (fop .add .f32 ((matTo xs xs.length).getD 0 0) ((matTo xs xs.length).getD 3 0)) 1073741824))))) ?_
    refine L.v (o_move (v := (.float .f32 (fop .quo .f32 (fop .add .f32 ((matTo xs xs.length).getD 0 0) ((matTo xs xs.length).getD 3 0)) 1073741824))) rfl) ?_
    refine L.v (v := (.float .f32 (angA (cvt .f64 .f32 (sqF (cvt .f32 .f64 (fop .sub .f32 1065353216 (fop .mul .f32 (fop .quo .f32 (fop .add .f32 ((matTo xs xs.length).getD 0 0) ((matTo xs xs.length).getD 3 0)) 1073741824) (fop .quo .f32 (fop .add .f32 ((matTo xs xs.length).getD 0 0) ((matTo xs xs.length).getD 3 0)) 1073741824)))))) (fop .quo .f32 (fop .add .f32 ((matTo xs xs.length).getD 0 0) ((matTo xs xs.length).getD 3 0)) 1073741824)))) (op_call [(.float .f32 (cvt .f64 .f32 (sqF (cvt .f32 .f64 (fop .sub .f32 1065353216 (fop .mul .f32 (fop .quo .f32 (fop .add .f32 ((matTo xs xs.length).getD 0 0) ((matTo xs xs.length).getD 3 0)) 1073741824) (fop .quo .f32 (fop .add .f32 ((matTo xs xs.length).getD 0 0) ((matTo xs xs.length).getD 3 0)) 1073741824))))))), (.float .f32 (fop .quo .f32 (fop .add .f32 ((matTo xs xs.length).getD 0 0) ((matTo xs xs.length).getD 3 0)) 1073741824))] Try.call75 rfl (implAng (cvt .f64 .f32 (sqF (cvt .f32 .f64 (fop .sub .f32 1065353216 (fop .mul .f32 (fop .quo .f32 (fop .add .f32 ((matTo xs xs.length).getD 0 0) ((matTo xs xs.length).getD 3 0)) 1073741824) (fop .quo .f32 (fop .add .f32 ((matTo xs xs.length).getD 0 0) ((matTo xs xs.length).getD 3 0)) 1073741824)))))) (fop .quo .f32 (fop .add .f32 ((matTo xs xs.length).getD 0 0) ((matTo xs xs.length).getD 3 0)) 1073741824))) ?_
    refine L.v (o_assign (v := (.float .f32 (angA (cvt .f64 .f32 (sqF (cvt .f32 .f64 (fop .sub .f32 1065353216 (fop .mul .f32 (fop .quo .f32 (fop .add .f32 ((matTo xs xs.length).getD 0 0) ((matTo xs xs.length).getD 3 0)) 1073741824) (fop .quo .f32 (fop .add .f32 ((matTo xs xs.length).getD 0 0) ((matTo xs xs.length).getD 3 0)) 1073741824)))))) (fop .quo .f32 (fop .add .f32 ((matTo xs xs.length).getD 0 0) ((matTo xs xs.length).getD 3 0)) 1073741824)))) rfl) ?_
    refine L.nil ?_
    refine W.seq ?_
    refine W.seq ?_
    refine W.region ?_
    refine L.v (o_move (v := (.slice (some ⟨b, o, none⟩) 4 c3)) rfl) ?_
    refine L.v (o_indexAddr (b := b) (off := o) (n := 4) (c := c3) 1 Try.underlying32 Try.sizeOf24 rfl rfl (by omega)) ?_
    refine L.v (o_load (b := b) (off := o + 1 * 1) (v := (.float .f32 ((matTo xs xs.length).getD 1 0))) Try.isAgg24 rfl (Rds.fst (Sl.at (Fsl.reads fs5) 1 (by simp) 0)) rfl) ?_
    refine L.v (o_fcmp (k := .f32) (a := (matTo xs xs.length).getD 1 0) (b := 0) rfl rfl rfl rfl) ?_
    refine L.nil ?_
    refine W.cond (b := fcmp .lss .f32 ((matTo xs xs.length).getD 1 0) 0) rfl (fun q10 => ?_) (fun q10 => ?_)
    ·
      refine W.seq ?_
      refine W.region ?_
      refine L.v (o_move (v := (.float .f32 (angA (cvt .f64 .f32 (sqF (cvt .f32 .f64 (fop .sub .f32 1065353216 (fop .mul .f32 (fop .quo .f32 (fop .add .f32 ((matTo xs xs.length).getD 0 0) ((matTo xs xs.length).getD 3 0)) 1073741824) (fop .quo .f32 (fop .add .f32 ((matTo xs xs.length).getD 0 0) ((matTo xs xs.length).getD 3 0)) 1073741824)))))) (fop .quo .f32 (fop .add .f32 ((matTo xs xs.length).getD 0 0) ((matTo xs xs.length).getD 3 0)) 1073741824)))) rfl) ?_
      refine L.v (o_fneg (k := .f32) (a := angA (cvt .f64 .f32 (sqF (cvt .f32 .f64 (fop .sub .f32 1065353216 (fop .mul .f32 (fop .quo .f32 (fop .add .f32 ((matTo xs xs.length).getD 0 0) ((matTo xs xs.length).getD 3 0)) 1073741824) (fop .quo .f32 (fop .add .f32 ((matTo xs xs.length).getD 0 0) ((matTo xs xs.length).getD 3 0)) 1073741824)))))) (fop .quo .f32 (fop .add .f32 ((matTo xs xs.length).getD 0 0) ((matTo xs xs.length).getD 3 0)) 1073741824)) rfl) ?_
      refine L.v (o_assign (v := (.float .f32 (Op.negFloat .f32 (angA (cvt .f64 .f32 (sqF (cvt .f32 .f64 (fop .sub .f32 1065353216 (fop .mul .f32 (fop .quo .f32 (fop .add .f32 ((matTo xs xs.length).getD 0 0) ((matTo xs xs.length).getD 3 0)) 1073741824) (fop .quo .f32 (fop .add .f32 ((matTo xs xs.length).getD 0 0) ((matTo xs xs.length).getD 3 0)) 1073741824)))))) (fop .quo .f32 (fop .add .f32 ((matTo xs xs.length).getD 0 0) ((matTo xs xs.length).getD 3 0)) 1073741824))))) rfl) ?_
      refine L.v (o_assign (v := (.bool true)) rfl) ?_
      refine L.nil ?_
      refine W.ret ?_
      exact RetK.two σ (.float .f32 (Op.negFloat .f32 (angA (cvt .f64 .f32 (sqF (cvt .f32 .f64 (fop .sub .f32 1065353216 (fop .mul .f32 (fop .quo .f32 (fop .add .f32 ((matTo xs xs.length).getD 0 0) ((matTo xs xs.length).getD 3 0)) 1073741824) (fop .quo .f32 (fop .add .f32 ((matTo xs xs.length).getD 0 0) ((matTo xs xs.length).getD 3 0)) 1073741824)))))) (fop .quo .f32 (fop .add .f32 ((matTo xs xs.length).getD 0 0) ((matTo xs xs.length).getD 3 0)) 1073741824)))) (.bool true) rfl rfl rfl rfl rfl ex8 ⟨by first | (rw [tuneF_yes (bn_f q1), (bn_f q1), tuneV_t (by assumption), tuneW, ← half_eq]; done) | (rw [tuneF_yes (bn_f q1), (bn_f q1), tuneV_f (by assumption), tuneW, ← half_eq]; done), rfl⟩
    ·
      refine W.skip ?_
      refine W.seq ?_
      refine W.region ?_
      refine L.v (o_move (v := (.float .f32 (angA (cvt .f64 .f32 (sqF (cvt .f32 .f64 (fop .sub .f32 1065353216 (fop .mul .f32 (fop .quo .f32 (fop .add .f32 ((matTo xs xs.length).getD 0 0) ((matTo xs xs.length).getD 3 0)) 1073741824) (fop .quo .f32 (fop .add .f32 ((matTo xs xs.length).getD 0 0) ((matTo xs xs.length).getD 3 0)) 1073741824)))))) (fop .quo .f32 (fop .add .f32 ((matTo xs xs.length).getD 0 0) ((matTo xs xs.length).getD 3 0)) 1073741824)))) rfl) ?_
      refine L.v (o_assign (v := (.float .f32 (angA (cvt .f64 .f32 (sqF (cvt .f32 .f64 (fop .sub .f32 1065353216 (fop .mul .f32 (fop .quo .f32 (fop .add .f32 ((matTo xs xs.length).getD 0 0) ((matTo xs xs.length).getD 3 0)) 1073741824) (fop .quo .f32 (fop .add .f32 ((matTo xs xs.length).getD 0 0) ((matTo xs xs.length).getD 3 0)) 1073741824)))))) (fop .quo .f32 (fop .add .f32 ((matTo xs xs.length).getD 0 0) ((matTo xs xs.length).getD 3 0)) 1073741824)))) rfl) ?_
      refine L.v (o_assign (v := (.bool true)) rfl) ?_
      refine L.nil ?_
      refine W.ret ?_
      exact RetK.two σ (.float .f32 (angA (cvt .f64 .f32 (sqF (cvt .f32 .f64 (fop .sub .f32 1065353216 (fop .mul .f32 (fop .quo .f32 (fop .add .f32 ((matTo xs xs.length).getD 0 0) ((matTo xs xs.length).getD 3 0)) 1073741824) (fop .quo .f32 (fop .add .f32 ((matTo xs xs.length).getD 0 0) ((matTo xs xs.length).getD 3 0)) 1073741824)))))) (fop .quo .f32 (fop .add .f32 ((matTo xs xs.length).getD 0 0) ((matTo xs xs.length).getD 3 0)) 1073741824))) (.bool true) rfl rfl rfl rfl rfl ex8 ⟨by first | (rw [tuneF_yes (bn_f q1), (bn_f q1), tuneV_t (by assumption), tuneW, ← half_eq]; done) | (rw [tuneF_yes (bn_f q1), (bn_f q1), tuneV_f (by assumption), tuneW, ← half_eq]; done), rfl⟩

theorem lawTune {w0 : World} {σ : Sg} (p : Option Addr) (c : Nat) (xs : List (Int × Nat × Nat)) (hs : Sl σ 3 p (xs.map el)) (hm : xs.length ≤ maxLen) :
    Fn Try.prog w0 9 [(.slice p xs.length c)] σ (fun u _ => u = .bool true) := by
  refine Fn.of_W 43 Try.func9 rfl Try.ntmps9 rfl ?_
  refine W.seq ?_
  refine W.region ?_
  refine L.v (o_assign (v := (.bool false)) rfl) ?_
  refine L.nil ?_
  refine W.seq ?_
  refine W.region ?_
  refine L.v (o_assign (v := (.int .i64 1048576)) rfl) ?_
  refine L.nil ?_
  refine W.seq ?_
  refine W.region ?_
  refine L.v (o_move (v := (.slice p xs.length c)) rfl) ?_
  refine L.v (o_move (v := (.int .i64 1048576)) rfl) ?_
  refine L.v (v := (.int .i64 (szF 1048576 xs.length))) (op_call [(.slice p xs.length c), (.int .i64 1048576)] Try.call39 rfl (szElem_c p xs.length c 1048576 hm (by decide))) ?_
  refine L.v (o_assign (v := (.int .i64 (szF 1048576 xs.length))) rfl) ?_
  refine L.nil ?_
  refine W.seq ?_
  refine W.seq ?_
  refine W.region ?_
  refine L.v (o_move (v := (.int .i64 (szF 1048576 xs.length))) rfl) ?_
  refine L.v (o_ilss (a := szF 1048576 xs.length) (b := 0) rfl rfl rfl) ?_
  refine L.nil ?_
  refine W.cond (b := decide ((szF 1048576 xs.length : Int) < 0)) rfl (fun q1 => ?_) (fun q1 => ?_)
  ·
    have a2 : (szF 1048576 xs.length : Int) < 0 := of_decide_eq_true q1
    refine W.seq ?_
    refine W.region ?_
    refine L.v (o_assign (v := (.bool true)) rfl) ?_
    refine L.nil ?_
    refine W.ret ?_
    exact RetK.one _ (.bool true) rfl rfl (Ext.refl _) rfl
  ·
    have a3 : ¬ ((szF 1048576 xs.length : Int) < 0) := of_decide_eq_false q1
    refine W.skip ?_
    refine W.seq ?_
    have hlen : xs.length ≤ 1048576 := szF_ok (by assumption)
    refine W.region ?_
    refine L.v (o_move (v := (.slice p xs.length c)) rfl) ?_
    refine L.cons (op_call [(.slice p xs.length c)] Try.call41 rfl (toElemS p c xs hs (by omega))) ?_
    rintro _ s6 ⟨p4, rfl, fs7⟩
    have ap8 : Apart (xs.length) (xs.length) p4 p := by simpa using Fsl.apart fs7 hs (el_ne _)
    have hs9 := Sl.ext hs fs7.ext
    have ex10 := Ext.trans (Ext.refl σ) fs7.ext
    have mu11 := Fsl.mut fs7 (xs.length * 3) (by simp)
    refine L.v (v := (.tuple #[(.float .f32 (tuneF xs)), (.bool (stableF xs))])) (op_call [(.slice p4 xs.length xs.length)] Try.call40 rfl (specTune p4 xs.length xs (Fsl.reads fs7) (by omega))) ?_
    refine L.v (o_move (v := (.tuple #[(.float .f32 (tuneF xs)), (.bool (stableF xs))])) rfl) ?_
    refine L.v (o_extract (vs := #[(.float .f32 (tuneF xs)), (.bool (stableF xs))]) (v := (.float .f32 (tuneF xs))) rfl rfl rfl) ?_
    refine L.v (o_extract (vs := #[(.float .f32 (tuneF xs)), (.bool (stableF xs))]) (v := (.bool (stableF xs))) rfl rfl rfl) ?_
    refine L.v (o_assign (v := (.float .f32 (tuneF xs))) rfl) ?_
    refine L.v (o_assign (v := (.bool (stableF xs))) rfl) ?_
    refine L.nil ?_
    refine W.seq ?_
    refine W.region ?_
    refine L.v (o_move (v := (.slice p xs.length c)) rfl) ?_
    refine L.cons (op_call [(.slice p xs.length c)] Try.call41 rfl (toElemS p c xs hs9 (by omega))) ?_
    rintro _ s14 ⟨p12, rfl, fs15⟩
    have ap16 : Apart (xs.length) (xs.length) p12 p := by simpa using Fsl.apart fs15 hs9 (el_ne _)
    have ap17 : Apart (xs.length) (xs.length) p12 p4 := by simpa using Fsl.apart fs15 (Fsl.reads fs7) (el_ne _)
    have hs18 := Sl.ext hs9 fs15.ext
    have hs19 := Sl.ext (Fsl.reads fs7) fs15.ext
    have mu20 := Mut.ext mu11 fs15.ext
    have ex21 := Ext.trans ex10 fs15.ext
    have mu22 := Fsl.mut fs15 (xs.length * 3) (by simp)
    refine L.v (o_assign (v := (.slice p12 xs.length xs.length)) rfl) ?_
    refine L.nil ?_
    refine W.seq ?_
    refine W.region ?_
    refine L.v (o_move (v := (.slice p12 xs.length xs.length)) rfl) ?_
    refine L.v (v := (.tuple #[(.float .f32 (tuneF xs)), (.bool (stableF xs))])) (op_call [(.slice p12 xs.length xs.length)] Try.call42 rfl (implTune p12 xs.length xs (Fsl.reads fs15) (by omega))) ?_
    refine L.v (o_move (v := (.tuple #[(.float .f32 (tuneF xs)), (.bool (stableF xs))])) rfl) ?_
    refine L.v (o_extract (vs := #[(.float .f32 (tuneF xs)), (.bool (stableF xs))]) (v := (.float .f32 (tuneF xs))) rfl rfl rfl) ?_
    refine L.v (o_extract (vs := #[(.float .f32 (tuneF xs)), (.bool (stableF xs))]) (v := (.bool (stableF xs))) rfl rfl rfl) ?_
    refine L.v (o_assign (v := (.float .f32 (tuneF xs))) rfl) ?_
    refine L.v (o_assign (v := (.bool (stableF xs))) rfl) ?_
    refine L.nil ?_
    refine W.seq ?_
    refine W.seq ?_
    refine W.region ?_
    refine L.v (o_move (v := (.float .f32 (tuneF xs))) rfl) ?_
    refine L.v (o_cvFF (s := .f32) (d := .f64) (a := tuneF xs) (by rw [Try.underlying24]; rfl) Try.underlying30 rfl (okw (tuneF xs))) ?_
    refine L.v (o_move (v := (.float .f32 (tuneF xs))) rfl) ?_
    refine L.v (o_cvFF (s := .f32) (d := .f64) (a := tuneF xs) (by rw [Try.underlying24]; rfl) Try.underlying30 rfl (okw (tuneF xs))) ?_
    refine L.v (v := (.bool true)) (op_call [(.float .f64 (cvt .f32 .f64 (tuneF xs))), (.float .f64 (cvt .f32 .f64 (tuneF xs)))] Try.call14 rfl (sameFloat_c (cvt .f32 .f64 (tuneF xs)))) ?_
    refine L.v (o_not (b := true) (c := false) rfl rfl) ?_
    refine L.v (o_move (v := (.bool false)) rfl) ?_
    refine L.gv (j := 6) (d₁ := 33) (b := false) rfl rfl rfl rfl (o_move (v := (.bool (stableF xs))) rfl) ?_
    refine L.gv (j := 6) (d₁ := 33) (b := false) rfl rfl rfl rfl (o_move (v := (.bool (stableF xs))) rfl) ?_
    refine L.gv (j := 6) (d₁ := 33) (b := false) rfl rfl rfl rfl (o_bneq (a := stableF xs) (b := stableF xs) (c := false) Try.underlying4 rfl rfl (by simp)) ?_
    refine L.v (o_pickF (b := false) (v := (.bool false)) rfl rfl rfl) ?_
    refine L.nil ?_
    refine W.condF (b := false) rfl rfl ?_
    refine W.skip ?_
    refine W.seq ?_
    refine W.seq ?_
    refine W.region ?_
    refine L.v (o_move (v := (.slice p12 xs.length xs.length)) rfl) ?_
    refine L.v (o_move (v := (.slice p xs.length c)) rfl) ?_
    refine L.cons (op_call [(.slice p xs.length c)] Try.call41 rfl (toElemS p c xs hs18 (by omega))) ?_
    rintro _ s25 ⟨p23, rfl, fs26⟩
    have ap27 : Apart (xs.length) (xs.length) p23 p := by simpa using Fsl.apart fs26 hs18 (el_ne _)
    have ap28 : Apart (xs.length) (xs.length) p23 p4 := by simpa using Fsl.apart fs26 hs19 (el_ne _)
    have ap29 : Apart (xs.length) (xs.length) p23 p12 := by simpa using Fsl.apart fs26 (Fsl.reads fs15) (el_ne _)
    have hs30 := Sl.ext hs18 fs26.ext
    have hs31 := Sl.ext hs19 fs26.ext
    have mu32 := Mut.ext mu20 fs26.ext
    have hs33 := Sl.ext (Fsl.reads fs15) fs26.ext
    have mu34 := Mut.ext mu22 fs26.ext
    have ex35 := Ext.trans ex21 fs26.ext
    have mu36 := Fsl.mut fs26 (xs.length * 3) (by simp)
    refine L.v (v := (.bool true)) (op_call [(.slice p12 xs.length xs.length), (.slice p23 xs.length xs.length)] Try.call43 rfl (eqElemS p12 p23 xs.length xs.length xs hs33 (Fsl.reads fs26) (by omega))) ?_
    refine L.v (o_not (b := true) (c := false) rfl rfl) ?_
    refine L.nil ?_
    refine W.condF (b := false) rfl rfl ?_
    refine W.skip ?_
    refine W.seq ?_
    refine W.region ?_
    refine L.v (o_assign (v := (.bool true)) rfl) ?_
    refine L.nil ?_
    refine W.ret ?_
    exact RetK.one _ (.bool true) rfl rfl (Ext.refl _) rfl

end Go.Proofs.Ytnonlibekcacgaa.En
