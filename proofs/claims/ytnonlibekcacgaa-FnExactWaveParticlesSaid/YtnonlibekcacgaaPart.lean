/- WaveParticles in the program and in the reference, and its law. -/
import Derived.Test.YtnonlibekcacgaaPts
import Derived.Test.YtnonlibekcacgaaNear
import Derived.Test.YtnonlibekcacgaaRows
namespace Go.Proofs.Ytnonlibekcacgaa.En
open Go
set_option linter.unusedVariables false
set_option maxRecDepth 100000
def cfB (a b : Nat) : Bool := finB a && finB b
def partB (a b c d e f : Nat) : Bool := cfB a b && (cfB c d && (finB e && (finB f && fcmp .gtr .f32 f 0)))
theorem part_ok {a b c : Nat} (ha : finB a = true) (hb : finB b = true) (hc : finB c = true) : partB a b c 0 1065353216 1065353216 = true := by
  have h0 : finB 0 = true := by decide +kernel
  have h1 : finB 1065353216 = true := by decide +kernel
  have h2 : fcmp .gtr .f32 1065353216 0 = true := by decide +kernel
  simp [partB, cfB, ha, hb, hc, h0, h1, h2]
def ptAt (w h : Nat) (m : Int) (n size speed k : Nat) : Nat × Nat × Nat × Nat × Nat × Nat := (wx w m n size k, wy h, speed, 0, 1065353216, 1065353216)
def ptTo (w h : Nat) (m : Int) (n size speed k : Nat) : List (Nat × Nat × Nat × Nat × Nat × Nat) := (List.range k).map (ptAt w h m n size speed)
theorem ptTo_len (w h : Nat) (m : Int) (n size speed k : Nat) : (ptTo w h m n size speed k).length = k := by simp [ptTo]
theorem ptTo_succ (w h : Nat) (m : Int) (n size speed k : Nat) : ptTo w h m n size speed (k + 1) = ptTo w h m n size speed k ++ [ptAt w h m n size speed k] := by simp [ptTo, List.range_succ]
def ptB (gx gy c m : Int) (size speed : Nat) : Bool := decide ((4 ≤ gx ∧ gx ≤ 16) ∧ 4 ≤ gy ∧ gy ≤ 16) && (decide (1 ≤ c ∧ c ≤ 64) && (decide (0 ≤ m ∧ m ≤ gx) && (finB size && finB speed)))
def ptF (gx gy c m : Int) (size speed : Nat) : List (Nat × Nat × Nat × Nat × Nat × Nat) := if ptB gx gy c m size speed = true then ptTo gx.toNat gy.toNat m c.toNat size speed c.toNat else []
theorem ptF_no {gx gy c m : Int} {size speed : Nat} (h : ptB gx gy c m size speed = false) : ptF gx gy c m size speed = [] := if_neg (by rw [h]; decide)
theorem ptF_yes {w h n : Nat} {m : Int} {size speed : Nat} (hb : ptB (w : Int) (h : Int) (n : Int) m size speed = true) : ptF (w : Int) (h : Int) (n : Int) m size speed = ptTo w h m n size speed n := if_pos hb
theorem ptF_le (gx gy c m : Int) (size speed : Nat) : (ptF gx gy c m size speed).length ≤ 1048576 := by
  cases h : ptB gx gy c m size speed with
  | false => rw [ptF_no h]; simp
  | true =>
    rw [ptF, if_pos h, ptTo_len]
    simp only [ptB, Bool.and_eq_true, decide_eq_true_eq] at h
    omega
theorem specCF {w0 : World} {σ : Sg} (a b : Nat) :
    FnV Try.prog w0 87 [(.complex .f32 a b)] σ (.bool (cfB a b)) := by
  unfold FnV
  refine Fn.of_W 11 Try.func87 rfl Try.ntmps87 rfl ?_
  refine W.seq ?_
  refine W.region ?_
  refine L.v (o_assign (v := (.bool false)) rfl) ?_
  refine L.nil ?_
  refine W.seq ?_
  refine W.region ?_
  refine L.v (o_move (v := (.complex .f32 a b)) rfl) ?_
  refine L.v (o_real (k := .f32) (a := a) (b := b) rfl) ?_
  refine L.v (v := (.bool (finB a))) (op_call [(.float .f32 a)] Try.call52 rfl (specFin a)) ?_
  refine L.v (o_move (v := (.bool (finB a))) rfl) ?_
  rcases Bool.eq_false_or_eq_true (finB a) with q1 | q1
  ·
    refine L.gv (j := 3) (d₁ := 6) (b := finB a) rfl rfl rfl q1 (o_move (v := (.complex .f32 a b)) rfl) ?_
    refine L.gv (j := 3) (d₁ := 6) (b := finB a) rfl rfl rfl q1 (o_imag (k := .f32) (a := a) (b := b) rfl) ?_
    refine L.gv (j := 3) (d₁ := 6) (b := finB a) rfl rfl rfl q1 (v := (.bool (finB b))) (op_call [(.float .f32 b)] Try.call52 rfl (specFin b)) ?_
    refine L.v (o_pickT (b := finB a) (v := (.bool (finB b))) rfl q1 rfl) ?_
    refine L.v (o_assign (v := (.bool (finB b))) rfl) ?_
    refine L.nil ?_
    refine W.ret ?_
    exact RetK.one σ (.bool (finB b)) rfl rfl (Ext.refl _) ⟨by simp_all [cfB], rfl⟩
  ·
    refine L.gF (j := 3) (d₁ := 6) (b := finB a) rfl rfl rfl q1 ?_
    refine L.gF (j := 3) (d₁ := 6) (b := finB a) rfl rfl rfl q1 ?_
    refine L.gF (j := 3) (d₁ := 6) (b := finB a) rfl rfl rfl q1 ?_
    refine L.v (o_pickF (b := finB a) (v := (.bool false)) rfl q1 rfl) ?_
    refine L.v (o_assign (v := (.bool false)) rfl) ?_
    refine L.nil ?_
    refine W.ret ?_
    exact RetK.one σ (.bool false) rfl rfl (Ext.refl _) ⟨by simp_all [cfB], rfl⟩

theorem specPart {w0 : World} {σ : Sg} (p T : Nat) (a b c d e f : Nat) (hb : σ p = some (T, [.complex .f32 a b, .complex .f32 c d, .float .f32 e, .float .f32 f])) :
    FnV Try.prog w0 57 [(.pointer (some ⟨p, 0, none⟩))] σ (.bool (partB a b c d e f)) := by
  unfold FnV
  refine Fn.of_W 36 Try.func57 rfl Try.ntmps57 rfl ?_
  refine W.seq ?_
  refine W.region ?_
  refine L.v (o_assign (v := (.bool false)) rfl) ?_
  refine L.nil ?_
  refine W.seq ?_
  refine W.region ?_
  refine L.v (o_move (v := (.pointer (some ⟨p, 0, none⟩))) rfl) ?_
  refine L.v (o_nilCheck (p := ⟨p, 0, none⟩) rfl) ?_
  refine L.v (o_fieldAddr (b := p) (off := 0) (o := 0) (run_fieldAt (f := 0) (fld := { name := "At", type := 57, offset := 0, embedded := false, tag := "", pkgPath := "", byteOffset := 0 }) Try.underlying85 rfl Try.sizeOf57 (Nat.succ_ne_zero _)) rfl) ?_
  refine L.v (o_load (b := p) (off := 0 + 0) (v := (.complex .f32 a b)) Try.isAgg57 rfl (Rd.of hb rfl) rfl) ?_
  refine L.v (v := (.bool (cfB a b))) (op_call [(.complex .f32 a b)] Try.call87 rfl (specCF a b)) ?_
  refine L.v (o_move (v := (.bool (cfB a b))) rfl) ?_
  rcases Bool.eq_false_or_eq_true (cfB a b) with q1 | q1
  ·
    refine L.gv (j := 5) (d₁ := 8) (b := cfB a b) rfl rfl rfl q1 (o_move (v := (.pointer (some ⟨p, 0, none⟩))) rfl) ?_
    refine L.gv (j := 5) (d₁ := 8) (b := cfB a b) rfl rfl rfl q1 (o_nilCheck (p := ⟨p, 0, none⟩) rfl) ?_
    refine L.gv (j := 5) (d₁ := 8) (b := cfB a b) rfl rfl rfl q1 (o_fieldAddr (b := p) (off := 0) (o := 1) (run_fieldAt (f := 1) (fld := { name := "Speed", type := 57, offset := 1, embedded := false, tag := "", pkgPath := "", byteOffset := 8 }) Try.underlying85 rfl Try.sizeOf57 (Nat.succ_ne_zero _)) rfl) ?_
    refine L.gv (j := 5) (d₁ := 8) (b := cfB a b) rfl rfl rfl q1 (o_load (b := p) (off := 0 + 1) (v := (.complex .f32 c d)) Try.isAgg57 rfl (Rd.of hb rfl) rfl) ?_
    refine L.gv (j := 5) (d₁ := 8) (b := cfB a b) rfl rfl rfl q1 (v := (.bool (cfB c d))) (op_call [(.complex .f32 c d)] Try.call87 rfl (specCF c d)) ?_
    refine L.v (o_pickT (b := cfB a b) (v := (.bool (cfB c d))) rfl q1 rfl) ?_
    refine L.v (o_move (v := (.bool (cfB c d))) rfl) ?_
    rcases Bool.eq_false_or_eq_true (cfB c d) with q2 | q2
    ·
      refine L.gv (j := 12) (d₁ := 15) (b := cfB c d) rfl rfl rfl q2 (o_move (v := (.pointer (some ⟨p, 0, none⟩))) rfl) ?_
      refine L.gv (j := 12) (d₁ := 15) (b := cfB c d) rfl rfl rfl q2 (o_nilCheck (p := ⟨p, 0, none⟩) rfl) ?_
      refine L.gv (j := 12) (d₁ := 15) (b := cfB c d) rfl rfl rfl q2 (o_fieldAddr (b := p) (off := 0) (o := 2) (run_fieldAt (f := 2) (fld := { name := "Charge", type := 24, offset := 2, embedded := false, tag := "", pkgPath := "", byteOffset := 16 }) Try.underlying85 rfl Try.sizeOf24 (Nat.succ_ne_zero _)) rfl) ?_
      refine L.gv (j := 12) (d₁ := 15) (b := cfB c d) rfl rfl rfl q2 (o_load (b := p) (off := 0 + 2) (v := (.float .f32 e)) Try.isAgg24 rfl (Rd.of hb rfl) rfl) ?_
      refine L.gv (j := 12) (d₁ := 15) (b := cfB c d) rfl rfl rfl q2 (v := (.bool (finB e))) (op_call [(.float .f32 e)] Try.call52 rfl (specFin e)) ?_
      refine L.v (o_pickT (b := cfB c d) (v := (.bool (finB e))) rfl q2 rfl) ?_
      refine L.v (o_move (v := (.bool (finB e))) rfl) ?_
      rcases Bool.eq_false_or_eq_true (finB e) with q3 | q3
      ·
        refine L.gv (j := 19) (d₁ := 22) (b := finB e) rfl rfl rfl q3 (o_move (v := (.pointer (some ⟨p, 0, none⟩))) rfl) ?_
        refine L.gv (j := 19) (d₁ := 22) (b := finB e) rfl rfl rfl q3 (o_nilCheck (p := ⟨p, 0, none⟩) rfl) ?_
        refine L.gv (j := 19) (d₁ := 22) (b := finB e) rfl rfl rfl q3 (o_fieldAddr (b := p) (off := 0) (o := 3) (run_fieldAt (f := 3) (fld := { name := "Mass", type := 24, offset := 3, embedded := false, tag := "", pkgPath := "", byteOffset := 20 }) Try.underlying85 rfl Try.sizeOf24 (Nat.succ_ne_zero _)) rfl) ?_
        refine L.gv (j := 19) (d₁ := 22) (b := finB e) rfl rfl rfl q3 (o_load (b := p) (off := 0 + 3) (v := (.float .f32 f)) Try.isAgg24 rfl (Rd.of hb rfl) rfl) ?_
        refine L.gv (j := 19) (d₁ := 22) (b := finB e) rfl rfl rfl q3 (v := (.bool (finB f))) (op_call [(.float .f32 f)] Try.call52 rfl (specFin f)) ?_
        refine L.v (o_pickT (b := finB e) (v := (.bool (finB f))) rfl q3 rfl) ?_
        refine L.v (o_move (v := (.bool (finB f))) rfl) ?_
        rcases Bool.eq_false_or_eq_true (finB f) with q4 | q4
        ·
          refine L.gv (j := 26) (d₁ := 29) (b := finB f) rfl rfl rfl q4 (o_move (v := (.pointer (some ⟨p, 0, none⟩))) rfl) ?_
          refine L.gv (j := 26) (d₁ := 29) (b := finB f) rfl rfl rfl q4 (o_nilCheck (p := ⟨p, 0, none⟩) rfl) ?_
          refine L.gv (j := 26) (d₁ := 29) (b := finB f) rfl rfl rfl q4 (o_fieldAddr (b := p) (off := 0) (o := 3) (run_fieldAt (f := 3) (fld := { name := "Mass", type := 24, offset := 3, embedded := false, tag := "", pkgPath := "", byteOffset := 20 }) Try.underlying85 rfl Try.sizeOf24 (Nat.succ_ne_zero _)) rfl) ?_
          refine L.gv (j := 26) (d₁ := 29) (b := finB f) rfl rfl rfl q4 (o_load (b := p) (off := 0 + 3) (v := (.float .f32 f)) Try.isAgg24 rfl (Rd.of hb rfl) rfl) ?_
          refine L.gv (j := 26) (d₁ := 29) (b := finB f) rfl rfl rfl q4 (o_fcmp (k := .f32) (a := f) (b := 0) rfl rfl rfl rfl) ?_
          refine L.v (o_pickT (b := finB f) (v := (.bool (fcmp .gtr .f32 f 0))) rfl q4 rfl) ?_
          refine L.v (o_assign (v := (.bool (fcmp .gtr .f32 f 0))) rfl) ?_
          refine L.nil ?_
          refine W.ret ?_
          exact RetK.one σ (.bool (fcmp .gtr .f32 f 0)) rfl rfl (Ext.refl _) ⟨by simp_all [partB], rfl⟩
        ·
          refine L.gF (j := 26) (d₁ := 29) (b := finB f) rfl rfl rfl q4 ?_
          refine L.gF (j := 26) (d₁ := 29) (b := finB f) rfl rfl rfl q4 ?_
          refine L.gF (j := 26) (d₁ := 29) (b := finB f) rfl rfl rfl q4 ?_
          refine L.gF (j := 26) (d₁ := 29) (b := finB f) rfl rfl rfl q4 ?_
          refine L.gF (j := 26) (d₁ := 29) (b := finB f) rfl rfl rfl q4 ?_
          refine L.v (o_pickF (b := finB f) (v := (.bool false)) rfl q4 rfl) ?_
          refine L.v (o_assign (v := (.bool false)) rfl) ?_
          refine L.nil ?_
          refine W.ret ?_
          exact RetK.one σ (.bool false) rfl rfl (Ext.refl _) ⟨by simp_all [partB], rfl⟩
      ·
        refine L.gF (j := 19) (d₁ := 22) (b := finB e) rfl rfl rfl q3 ?_
        refine L.gF (j := 19) (d₁ := 22) (b := finB e) rfl rfl rfl q3 ?_
        refine L.gF (j := 19) (d₁ := 22) (b := finB e) rfl rfl rfl q3 ?_
        refine L.gF (j := 19) (d₁ := 22) (b := finB e) rfl rfl rfl q3 ?_
        refine L.gF (j := 19) (d₁ := 22) (b := finB e) rfl rfl rfl q3 ?_
        refine L.v (o_pickF (b := finB e) (v := (.bool false)) rfl q3 rfl) ?_
        refine L.v (o_move (v := (.bool false)) rfl) ?_
        refine L.gF (j := 26) (d₁ := 29) (b := false) rfl rfl rfl rfl ?_
        refine L.gF (j := 26) (d₁ := 29) (b := false) rfl rfl rfl rfl ?_
        refine L.gF (j := 26) (d₁ := 29) (b := false) rfl rfl rfl rfl ?_
        refine L.gF (j := 26) (d₁ := 29) (b := false) rfl rfl rfl rfl ?_
        refine L.gF (j := 26) (d₁ := 29) (b := false) rfl rfl rfl rfl ?_
        refine L.v (o_pickF (b := false) (v := (.bool false)) rfl rfl rfl) ?_
        refine L.v (o_assign (v := (.bool false)) rfl) ?_
        refine L.nil ?_
        refine W.ret ?_
        exact RetK.one σ (.bool false) rfl rfl (Ext.refl _) ⟨by simp_all [partB], rfl⟩
    ·
      refine L.gF (j := 12) (d₁ := 15) (b := cfB c d) rfl rfl rfl q2 ?_
      refine L.gF (j := 12) (d₁ := 15) (b := cfB c d) rfl rfl rfl q2 ?_
      refine L.gF (j := 12) (d₁ := 15) (b := cfB c d) rfl rfl rfl q2 ?_
      refine L.gF (j := 12) (d₁ := 15) (b := cfB c d) rfl rfl rfl q2 ?_
      refine L.gF (j := 12) (d₁ := 15) (b := cfB c d) rfl rfl rfl q2 ?_
      refine L.v (o_pickF (b := cfB c d) (v := (.bool false)) rfl q2 rfl) ?_
      refine L.v (o_move (v := (.bool false)) rfl) ?_
      refine L.gF (j := 19) (d₁ := 22) (b := false) rfl rfl rfl rfl ?_
      refine L.gF (j := 19) (d₁ := 22) (b := false) rfl rfl rfl rfl ?_
      refine L.gF (j := 19) (d₁ := 22) (b := false) rfl rfl rfl rfl ?_
      refine L.gF (j := 19) (d₁ := 22) (b := false) rfl rfl rfl rfl ?_
      refine L.gF (j := 19) (d₁ := 22) (b := false) rfl rfl rfl rfl ?_
      refine L.v (o_pickF (b := false) (v := (.bool false)) rfl rfl rfl) ?_
      refine L.v (o_move (v := (.bool false)) rfl) ?_
      refine L.gF (j := 26) (d₁ := 29) (b := false) rfl rfl rfl rfl ?_
      refine L.gF (j := 26) (d₁ := 29) (b := false) rfl rfl rfl rfl ?_
      refine L.gF (j := 26) (d₁ := 29) (b := false) rfl rfl rfl rfl ?_
      refine L.gF (j := 26) (d₁ := 29) (b := false) rfl rfl rfl rfl ?_
      refine L.gF (j := 26) (d₁ := 29) (b := false) rfl rfl rfl rfl ?_
      refine L.v (o_pickF (b := false) (v := (.bool false)) rfl rfl rfl) ?_
      refine L.v (o_assign (v := (.bool false)) rfl) ?_
      refine L.nil ?_
      refine W.ret ?_
      exact RetK.one σ (.bool false) rfl rfl (Ext.refl _) ⟨by simp_all [partB], rfl⟩
  ·
    refine L.gF (j := 5) (d₁ := 8) (b := cfB a b) rfl rfl rfl q1 ?_
    refine L.gF (j := 5) (d₁ := 8) (b := cfB a b) rfl rfl rfl q1 ?_
    refine L.gF (j := 5) (d₁ := 8) (b := cfB a b) rfl rfl rfl q1 ?_
    refine L.gF (j := 5) (d₁ := 8) (b := cfB a b) rfl rfl rfl q1 ?_
    refine L.gF (j := 5) (d₁ := 8) (b := cfB a b) rfl rfl rfl q1 ?_
    refine L.v (o_pickF (b := cfB a b) (v := (.bool false)) rfl q1 rfl) ?_
    refine L.v (o_move (v := (.bool false)) rfl) ?_
    refine L.gF (j := 12) (d₁ := 15) (b := false) rfl rfl rfl rfl ?_
    refine L.gF (j := 12) (d₁ := 15) (b := false) rfl rfl rfl rfl ?_
    refine L.gF (j := 12) (d₁ := 15) (b := false) rfl rfl rfl rfl ?_
    refine L.gF (j := 12) (d₁ := 15) (b := false) rfl rfl rfl rfl ?_
    refine L.gF (j := 12) (d₁ := 15) (b := false) rfl rfl rfl rfl ?_
    refine L.v (o_pickF (b := false) (v := (.bool false)) rfl rfl rfl) ?_
    refine L.v (o_move (v := (.bool false)) rfl) ?_
    refine L.gF (j := 19) (d₁ := 22) (b := false) rfl rfl rfl rfl ?_
    refine L.gF (j := 19) (d₁ := 22) (b := false) rfl rfl rfl rfl ?_
    refine L.gF (j := 19) (d₁ := 22) (b := false) rfl rfl rfl rfl ?_
    refine L.gF (j := 19) (d₁ := 22) (b := false) rfl rfl rfl rfl ?_
    refine L.gF (j := 19) (d₁ := 22) (b := false) rfl rfl rfl rfl ?_
    refine L.v (o_pickF (b := false) (v := (.bool false)) rfl rfl rfl) ?_
    refine L.v (o_move (v := (.bool false)) rfl) ?_
    refine L.gF (j := 26) (d₁ := 29) (b := false) rfl rfl rfl rfl ?_
    refine L.gF (j := 26) (d₁ := 29) (b := false) rfl rfl rfl rfl ?_
    refine L.gF (j := 26) (d₁ := 29) (b := false) rfl rfl rfl rfl ?_
    refine L.gF (j := 26) (d₁ := 29) (b := false) rfl rfl rfl rfl ?_
    refine L.gF (j := 26) (d₁ := 29) (b := false) rfl rfl rfl rfl ?_
    refine L.v (o_pickF (b := false) (v := (.bool false)) rfl rfl rfl) ?_
    refine L.v (o_assign (v := (.bool false)) rfl) ?_
    refine L.nil ?_
    refine W.ret ?_
    exact RetK.one σ (.bool false) rfl rfl (Ext.refl _) ⟨by simp_all [partB], rfl⟩

theorem specPts {w0 : World} {σ : Sg} (gx gy c m : Int) (size speed : Nat) :
    Fn Try.prog w0 25 [(.agg #[(.int .i64 gx), (.int .i64 gy)]), (.int .i64 c), (.int .i64 m), (.float .f32 size), (.float .f32 speed)] σ (RetFS w0 σ 4 ((ptF gx gy c m size speed).map pt) (ptF gx gy c m size speed).length (fun v => .tuple #[v, .bool (ptB gx gy c m size speed)])) := by
  refine Fn.of_W 82 Try.func25 rfl Try.ntmps25 rfl ?_
  refine W.seq ?_
  refine W.region ?_
  refine L.cons (o_box (v := (.agg #[(.int .i64 gx), (.int .i64 gy)])) rfl rfl [(.int .i64 gx), (.int .i64 gy)] rfl) ?_
  rintro _ _ ⟨b1, hf2, hw3, rfl, rfl⟩
  have fz7 := Ext.none (Ext.refl _) hf2
  have hb6 : (sg σ b1 (27, [(.int .i64 gx), (.int .i64 gy)])) b1 = some (27, [(.int .i64 gx), (.int .i64 gy)]) := sg_eq _ _ _
  have hx5 : Ext σ (sg σ b1 (27, [(.int .i64 gx), (.int .i64 gy)])) := (Ext.refl _).sg hf2
  have ehx5 := Ext.trans (Ext.refl _) hx5
  generalize hgs4 : sg σ b1 (27, [(.int .i64 gx), (.int .i64 gy)]) = s4 at *
  clear hgs4
  refine L.v (o_assign (v := (.slice none 0 0)) rfl) ?_
  refine L.v (o_assign (v := (.bool false)) rfl) ?_
  refine L.nil ?_
  refine W.seq ?_
  refine W.seq ?_
  refine W.region ?_
  refine L.v (v := (.bool (decide ((4 ≤ (gx : Int) ∧ (gx : Int) ≤ 16) ∧ 4 ≤ (gy : Int) ∧ (gy : Int) ≤ 16)))) (op_call [(.pointer (some ⟨b1, 0, none⟩))] Try.call46 rfl (specIs b1 _ gx gy hb6)) ?_
  refine L.v (o_not (b := decide ((4 ≤ (gx : Int) ∧ (gx : Int) ≤ 16) ∧ 4 ≤ (gy : Int) ∧ (gy : Int) ≤ 16)) rfl rfl) ?_
  refine L.v (o_move (v := (.bool (!(decide ((4 ≤ (gx : Int) ∧ (gx : Int) ≤ 16) ∧ 4 ≤ (gy : Int) ∧ (gy : Int) ≤ 16))))) rfl) ?_
  rcases Bool.eq_false_or_eq_true (!(decide ((4 ≤ (gx : Int) ∧ (gx : Int) ≤ 16) ∧ 4 ≤ (gy : Int) ∧ (gy : Int) ≤ 16))) with q8 | q8
  ·
    have a9 : ¬ ((4 ≤ (gx : Int) ∧ (gx : Int) ≤ 16) ∧ 4 ≤ (gy : Int) ∧ (gy : Int) ≤ 16) := of_decide_eq_false (bn_t q8)
    refine L.gF (j := 2) (d₁ := 19) (b := !(decide ((4 ≤ (gx : Int) ∧ (gx : Int) ≤ 16) ∧ 4 ≤ (gy : Int) ∧ (gy : Int) ≤ 16))) rfl rfl rfl q8 ?_
    refine L.gF (j := 2) (d₁ := 19) (b := !(decide ((4 ≤ (gx : Int) ∧ (gx : Int) ≤ 16) ∧ 4 ≤ (gy : Int) ∧ (gy : Int) ≤ 16))) rfl rfl rfl q8 ?_
    refine L.gF (j := 2) (d₁ := 19) (b := !(decide ((4 ≤ (gx : Int) ∧ (gx : Int) ≤ 16) ∧ 4 ≤ (gy : Int) ∧ (gy : Int) ≤ 16))) rfl rfl rfl q8 ?_
    refine L.v (o_pickT (b := !(decide ((4 ≤ (gx : Int) ∧ (gx : Int) ≤ 16) ∧ 4 ≤ (gy : Int) ∧ (gy : Int) ≤ 16))) (v := (.bool true)) rfl q8 rfl) ?_
    refine L.v (o_move (v := (.bool true)) rfl) ?_
    refine L.gF (j := 7) (d₁ := 24) (b := true) rfl rfl rfl rfl ?_
    refine L.gF (j := 7) (d₁ := 24) (b := true) rfl rfl rfl rfl ?_
    refine L.gF (j := 7) (d₁ := 24) (b := true) rfl rfl rfl rfl ?_
    refine L.gF (j := 7) (d₁ := 24) (b := true) rfl rfl rfl rfl ?_
    refine L.gF (j := 7) (d₁ := 24) (b := true) rfl rfl rfl rfl ?_
    refine L.v (o_pickT (b := true) (v := (.bool true)) rfl rfl rfl) ?_
    refine L.v (o_move (v := (.bool true)) rfl) ?_
    refine L.gF (j := 14) (d₁ := 31) (b := true) rfl rfl rfl rfl ?_
    refine L.gF (j := 14) (d₁ := 31) (b := true) rfl rfl rfl rfl ?_
    refine L.gF (j := 14) (d₁ := 31) (b := true) rfl rfl rfl rfl ?_
    refine L.v (o_pickT (b := true) (v := (.bool true)) rfl rfl rfl) ?_
    refine L.v (o_move (v := (.bool true)) rfl) ?_
    refine L.gF (j := 19) (d₁ := 36) (b := true) rfl rfl rfl rfl ?_
    refine L.gF (j := 19) (d₁ := 36) (b := true) rfl rfl rfl rfl ?_
    refine L.gF (j := 19) (d₁ := 36) (b := true) rfl rfl rfl rfl ?_
    refine L.v (o_pickT (b := true) (v := (.bool true)) rfl rfl rfl) ?_
    refine L.nil ?_
    refine W.condT (b := true) rfl rfl ?_
    refine W.seq ?_
    refine W.region ?_
    refine L.v (o_assign (v := (.slice none 0 0)) rfl) ?_
    refine L.v (o_assign (v := (.bool false)) rfl) ?_
    refine L.nil ?_
    refine W.ret ?_
    have hwn : ptB gx gy c m size speed = false := (by unfold ptB; cases hfs : finB size <;> cases hft : finB speed <;> by_cases g1 : (4 ≤ gx ∧ gx ≤ 16) ∧ 4 ≤ gy ∧ gy ≤ 16 <;> by_cases g2 : 1 ≤ c ∧ c ≤ 64 <;> by_cases g3 : 0 ≤ m ∧ m ≤ gx <;> simp_all <;> omega)
    exact RetK.two σ (.slice none 0 0) (.bool false) rfl rfl rfl rfl rfl ehx5 ⟨none, 0, by rw [ptF_no hwn, hwn]; rfl, by rw [ptF_no hwn]; exact Fsl.nil 4⟩
  ·
    have a10 : (4 ≤ (gx : Int) ∧ (gx : Int) ≤ 16) ∧ 4 ≤ (gy : Int) ∧ (gy : Int) ≤ 16 := of_decide_eq_true (bn_f q8)
    refine L.gv (j := 2) (d₁ := 19) (b := !(decide ((4 ≤ (gx : Int) ∧ (gx : Int) ≤ 16) ∧ 4 ≤ (gy : Int) ∧ (gy : Int) ≤ 16))) rfl rfl rfl q8 (o_move (v := (.int .i64 c)) rfl) ?_
    refine L.gv (j := 2) (d₁ := 19) (b := !(decide ((4 ≤ (gx : Int) ∧ (gx : Int) ≤ 16) ∧ 4 ≤ (gy : Int) ∧ (gy : Int) ≤ 16))) rfl rfl rfl q8 (v := (.bool (decide ((1 : Int) ≤ c ∧ (c : Int) ≤ 64)))) (op_call [(.int .i64 c), (.int .i64 1), (.int .i64 64)] Try.call47 rfl (withinS c 1 64)) ?_
    refine L.gv (j := 2) (d₁ := 19) (b := !(decide ((4 ≤ (gx : Int) ∧ (gx : Int) ≤ 16) ∧ 4 ≤ (gy : Int) ∧ (gy : Int) ≤ 16))) rfl rfl rfl q8 (o_not (b := decide ((1 : Int) ≤ c ∧ (c : Int) ≤ 64)) rfl rfl) ?_
    refine L.v (o_pickF (b := !(decide ((4 ≤ (gx : Int) ∧ (gx : Int) ≤ 16) ∧ 4 ≤ (gy : Int) ∧ (gy : Int) ≤ 16))) (v := (.bool (!(decide ((1 : Int) ≤ c ∧ (c : Int) ≤ 64))))) rfl q8 rfl) ?_
    refine L.v (o_move (v := (.bool (!(decide ((1 : Int) ≤ c ∧ (c : Int) ≤ 64))))) rfl) ?_
    rcases Bool.eq_false_or_eq_true (!(decide ((1 : Int) ≤ c ∧ (c : Int) ≤ 64))) with q11 | q11
    ·
      have a12 : ¬ ((1 : Int) ≤ c ∧ (c : Int) ≤ 64) := of_decide_eq_false (bn_t q11)
      refine L.gF (j := 7) (d₁ := 24) (b := !(decide ((1 : Int) ≤ c ∧ (c : Int) ≤ 64))) rfl rfl rfl q11 ?_
      refine L.gF (j := 7) (d₁ := 24) (b := !(decide ((1 : Int) ≤ c ∧ (c : Int) ≤ 64))) rfl rfl rfl q11 ?_
      refine L.gF (j := 7) (d₁ := 24) (b := !(decide ((1 : Int) ≤ c ∧ (c : Int) ≤ 64))) rfl rfl rfl q11 ?_
      refine L.gF (j := 7) (d₁ := 24) (b := !(decide ((1 : Int) ≤ c ∧ (c : Int) ≤ 64))) rfl rfl rfl q11 ?_
      refine L.gF (j := 7) (d₁ := 24) (b := !(decide ((1 : Int) ≤ c ∧ (c : Int) ≤ 64))) rfl rfl rfl q11 ?_
      refine L.v (o_pickT (b := !(decide ((1 : Int) ≤ c ∧ (c : Int) ≤ 64))) (v := (.bool true)) rfl q11 rfl) ?_
      refine L.v (o_move (v := (.bool true)) rfl) ?_
      refine L.gF (j := 14) (d₁ := 31) (b := true) rfl rfl rfl rfl ?_
      refine L.gF (j := 14) (d₁ := 31) (b := true) rfl rfl rfl rfl ?_
      refine L.gF (j := 14) (d₁ := 31) (b := true) rfl rfl rfl rfl ?_
      refine L.v (o_pickT (b := true) (v := (.bool true)) rfl rfl rfl) ?_
      refine L.v (o_move (v := (.bool true)) rfl) ?_
      refine L.gF (j := 19) (d₁ := 36) (b := true) rfl rfl rfl rfl ?_
      refine L.gF (j := 19) (d₁ := 36) (b := true) rfl rfl rfl rfl ?_
      refine L.gF (j := 19) (d₁ := 36) (b := true) rfl rfl rfl rfl ?_
      refine L.v (o_pickT (b := true) (v := (.bool true)) rfl rfl rfl) ?_
      refine L.nil ?_
      refine W.condT (b := true) rfl rfl ?_
      refine W.seq ?_
      refine W.region ?_
      refine L.v (o_assign (v := (.slice none 0 0)) rfl) ?_
      refine L.v (o_assign (v := (.bool false)) rfl) ?_
      refine L.nil ?_
      refine W.ret ?_
      have hwn : ptB gx gy c m size speed = false := (by unfold ptB; cases hfs : finB size <;> cases hft : finB speed <;> by_cases g1 : (4 ≤ gx ∧ gx ≤ 16) ∧ 4 ≤ gy ∧ gy ≤ 16 <;> by_cases g2 : 1 ≤ c ∧ c ≤ 64 <;> by_cases g3 : 0 ≤ m ∧ m ≤ gx <;> simp_all <;> omega)
      exact RetK.two σ (.slice none 0 0) (.bool false) rfl rfl rfl rfl rfl ehx5 ⟨none, 0, by rw [ptF_no hwn, hwn]; rfl, by rw [ptF_no hwn]; exact Fsl.nil 4⟩
    ·
      have a13 : (1 : Int) ≤ c ∧ (c : Int) ≤ 64 := of_decide_eq_true (bn_f q11)
      refine L.gv (j := 7) (d₁ := 24) (b := !(decide ((1 : Int) ≤ c ∧ (c : Int) ≤ 64))) rfl rfl rfl q11 (o_move (v := (.int .i64 m)) rfl) ?_
      refine L.gv (j := 7) (d₁ := 24) (b := !(decide ((1 : Int) ≤ c ∧ (c : Int) ≤ 64))) rfl rfl rfl q11 (o_fieldAddr (b := b1) (off := 0) (o := 0) (run_fieldAt (f := 0) (fld := { name := "Wide", type := 2, offset := 0, embedded := false, tag := "", pkgPath := "", byteOffset := 0 }) Try.underlying27 rfl Try.sizeOf2 (Nat.succ_ne_zero _)) rfl) ?_
      refine L.gv (j := 7) (d₁ := 24) (b := !(decide ((1 : Int) ≤ c ∧ (c : Int) ≤ 64))) rfl rfl rfl q11 (o_load (b := b1) (off := 0 + 0) (v := (.int .i64 gx)) Try.isAgg2 rfl (Rd.of hb6 rfl) rfl) ?_
      refine L.gv (j := 7) (d₁ := 24) (b := !(decide ((1 : Int) ≤ c ∧ (c : Int) ≤ 64))) rfl rfl rfl q11 (v := (.bool (decide ((0 : Int) ≤ m ∧ (m : Int) ≤ gx)))) (op_call [(.int .i64 m), (.int .i64 0), (.int .i64 gx)] Try.call47 rfl (withinS m 0 gx)) ?_
      refine L.gv (j := 7) (d₁ := 24) (b := !(decide ((1 : Int) ≤ c ∧ (c : Int) ≤ 64))) rfl rfl rfl q11 (o_not (b := decide ((0 : Int) ≤ m ∧ (m : Int) ≤ gx)) rfl rfl) ?_
      refine L.v (o_pickF (b := !(decide ((1 : Int) ≤ c ∧ (c : Int) ≤ 64))) (v := (.bool (!(decide ((0 : Int) ≤ m ∧ (m : Int) ≤ gx))))) rfl q11 rfl) ?_
      refine L.v (o_move (v := (.bool (!(decide ((0 : Int) ≤ m ∧ (m : Int) ≤ gx))))) rfl) ?_
      rcases Bool.eq_false_or_eq_true (!(decide ((0 : Int) ≤ m ∧ (m : Int) ≤ gx))) with q14 | q14
      ·
        have a15 : ¬ ((0 : Int) ≤ m ∧ (m : Int) ≤ gx) := of_decide_eq_false (bn_t q14)
        refine L.gF (j := 14) (d₁ := 31) (b := !(decide ((0 : Int) ≤ m ∧ (m : Int) ≤ gx))) rfl rfl rfl q14 ?_
        refine L.gF (j := 14) (d₁ := 31) (b := !(decide ((0 : Int) ≤ m ∧ (m : Int) ≤ gx))) rfl rfl rfl q14 ?_
        refine L.gF (j := 14) (d₁ := 31) (b := !(decide ((0 : Int) ≤ m ∧ (m : Int) ≤ gx))) rfl rfl rfl q14 ?_
        refine L.v (o_pickT (b := !(decide ((0 : Int) ≤ m ∧ (m : Int) ≤ gx))) (v := (.bool true)) rfl q14 rfl) ?_
        refine L.v (o_move (v := (.bool true)) rfl) ?_
        refine L.gF (j := 19) (d₁ := 36) (b := true) rfl rfl rfl rfl ?_
        refine L.gF (j := 19) (d₁ := 36) (b := true) rfl rfl rfl rfl ?_
        refine L.gF (j := 19) (d₁ := 36) (b := true) rfl rfl rfl rfl ?_
        refine L.v (o_pickT (b := true) (v := (.bool true)) rfl rfl rfl) ?_
        refine L.nil ?_
        refine W.condT (b := true) rfl rfl ?_
        refine W.seq ?_
        refine W.region ?_
        refine L.v (o_assign (v := (.slice none 0 0)) rfl) ?_
        refine L.v (o_assign (v := (.bool false)) rfl) ?_
        refine L.nil ?_
        refine W.ret ?_
        have hwn : ptB gx gy c m size speed = false := (by unfold ptB; cases hfs : finB size <;> cases hft : finB speed <;> by_cases g1 : (4 ≤ gx ∧ gx ≤ 16) ∧ 4 ≤ gy ∧ gy ≤ 16 <;> by_cases g2 : 1 ≤ c ∧ c ≤ 64 <;> by_cases g3 : 0 ≤ m ∧ m ≤ gx <;> simp_all <;> omega)
        exact RetK.two σ (.slice none 0 0) (.bool false) rfl rfl rfl rfl rfl ehx5 ⟨none, 0, by rw [ptF_no hwn, hwn]; rfl, by rw [ptF_no hwn]; exact Fsl.nil 4⟩
      ·
        have a16 : (0 : Int) ≤ m ∧ (m : Int) ≤ gx := of_decide_eq_true (bn_f q14)
        refine L.gv (j := 14) (d₁ := 31) (b := !(decide ((0 : Int) ≤ m ∧ (m : Int) ≤ gx))) rfl rfl rfl q14 (o_move (v := (.float .f32 size)) rfl) ?_
        refine L.gv (j := 14) (d₁ := 31) (b := !(decide ((0 : Int) ≤ m ∧ (m : Int) ≤ gx))) rfl rfl rfl q14 (v := (.bool (finB size))) (op_call [(.float .f32 size)] Try.call52 rfl (specFin size)) ?_
        refine L.gv (j := 14) (d₁ := 31) (b := !(decide ((0 : Int) ≤ m ∧ (m : Int) ≤ gx))) rfl rfl rfl q14 (o_not (b := finB size) rfl rfl) ?_
        refine L.v (o_pickF (b := !(decide ((0 : Int) ≤ m ∧ (m : Int) ≤ gx))) (v := (.bool (!(finB size)))) rfl q14 rfl) ?_
        refine L.v (o_move (v := (.bool (!(finB size)))) rfl) ?_
        rcases Bool.eq_false_or_eq_true (!(finB size)) with q17 | q17
        ·
          refine L.gF (j := 19) (d₁ := 36) (b := !(finB size)) rfl rfl rfl q17 ?_
          refine L.gF (j := 19) (d₁ := 36) (b := !(finB size)) rfl rfl rfl q17 ?_
          refine L.gF (j := 19) (d₁ := 36) (b := !(finB size)) rfl rfl rfl q17 ?_
          refine L.v (o_pickT (b := !(finB size)) (v := (.bool true)) rfl q17 rfl) ?_
          refine L.nil ?_
          refine W.condT (b := true) rfl rfl ?_
          refine W.seq ?_
          refine W.region ?_
          refine L.v (o_assign (v := (.slice none 0 0)) rfl) ?_
          refine L.v (o_assign (v := (.bool false)) rfl) ?_
          refine L.nil ?_
          refine W.ret ?_
          have hwn : ptB gx gy c m size speed = false := (by unfold ptB; cases hfs : finB size <;> cases hft : finB speed <;> by_cases g1 : (4 ≤ gx ∧ gx ≤ 16) ∧ 4 ≤ gy ∧ gy ≤ 16 <;> by_cases g2 : 1 ≤ c ∧ c ≤ 64 <;> by_cases g3 : 0 ≤ m ∧ m ≤ gx <;> simp_all <;> omega)
          exact RetK.two σ (.slice none 0 0) (.bool false) rfl rfl rfl rfl rfl ehx5 ⟨none, 0, by rw [ptF_no hwn, hwn]; rfl, by rw [ptF_no hwn]; exact Fsl.nil 4⟩
        ·
          refine L.gv (j := 19) (d₁ := 36) (b := !(finB size)) rfl rfl rfl q17 (o_move (v := (.float .f32 speed)) rfl) ?_
          refine L.gv (j := 19) (d₁ := 36) (b := !(finB size)) rfl rfl rfl q17 (v := (.bool (finB speed))) (op_call [(.float .f32 speed)] Try.call52 rfl (specFin speed)) ?_
          refine L.gv (j := 19) (d₁ := 36) (b := !(finB size)) rfl rfl rfl q17 (o_not (b := finB speed) rfl rfl) ?_
          refine L.v (o_pickF (b := !(finB size)) (v := (.bool (!(finB speed)))) rfl q17 rfl) ?_
          refine L.nil ?_
          refine W.cond (b := !(finB speed)) rfl (fun q18 => ?_) (fun q18 => ?_)
          ·
            refine W.seq ?_
            refine W.region ?_
            refine L.v (o_assign (v := (.slice none 0 0)) rfl) ?_
            refine L.v (o_assign (v := (.bool false)) rfl) ?_
            refine L.nil ?_
            refine W.ret ?_
            have hwn : ptB gx gy c m size speed = false := (by unfold ptB; cases hfs : finB size <;> cases hft : finB speed <;> by_cases g1 : (4 ≤ gx ∧ gx ≤ 16) ∧ 4 ≤ gy ∧ gy ≤ 16 <;> by_cases g2 : 1 ≤ c ∧ c ≤ 64 <;> by_cases g3 : 0 ≤ m ∧ m ≤ gx <;> simp_all <;> omega)
            exact RetK.two σ (.slice none 0 0) (.bool false) rfl rfl rfl rfl rfl ehx5 ⟨none, 0, by rw [ptF_no hwn, hwn]; rfl, by rw [ptF_no hwn]; exact Fsl.nil 4⟩
          ·
            refine W.skip ?_
            refine W.seq ?_
            obtain ⟨w, rfl⟩ : ∃ w : Nat, gx = (w : Int) := ⟨gx.toNat, by omega⟩
            obtain ⟨h, rfl⟩ : ∃ h : Nat, gy = (h : Int) := ⟨gy.toNat, by omega⟩
            obtain ⟨n, rfl⟩ : ∃ n : Nat, c = (n : Int) := ⟨c.toNat, by omega⟩
            refine W.region ?_
            refine L.cons (o_buildSlice0 (info := Try.t85) Try.underlying44 Try.type85) ?_
            rintro _ _ ⟨b19, hf20, hw21, rfl, rfl⟩
            have ho0 := Own.new (σ := s4) (e := 85) 4 hw21
            have hx0 : Ext s4 (sg s4 b19 (85, [])) := (Ext.refl _).sg hf20
            have hv0 := ownAt (n := 0) (c := 0) hf20
            refine L.v (o_assign (v := (.slice (some ⟨b19, 0, none⟩) 0 0)) rfl) ?_
            refine L.nil ?_
            refine W.seq ?_
            refine W.seq ?_
            refine W.region ?_
            refine L.v (o_assign (v := (.int .i64 0)) rfl) ?_
            refine L.nil ?_
            refine W.block ?_
            refine W.loop (fun nn tt ss => ∃ (k : Nat) (v : Value), nn = n - k ∧ k ≤ n ∧ Own w0 ss 85 4 v (k) (((ptTo w h m n size speed (k)).map pt).flatten) ∧ Ext s4 ss ∧ (∀ b, v.ownBlock = some b → s4 b = none) ∧ FrOk tt [(1, (.int .i64 (n : Int))), (2, (.int .i64 m)), (3, (.float .f32 size)), (4, (.float .f32 speed)), (5, (.pointer (some ⟨b1, 0, none⟩))), (12, v), (13, (.int .i64 (k : Int)))]) _ ⟨0, (.slice (some ⟨b19, 0, none⟩) 0 0), rfl, by omega, ho0, hx0, hv0, ⟨rfl, rfl, rfl, rfl, rfl, rfl, rfl, trivial⟩⟩ ?_
            rintro _ tz22 sz22 ⟨k, vz22, rfl, hik, hoz22, hxz22, hvz22, fz22⟩
            replace fz22 : (upd (upd (upd (upd (upd (upd (upd tz22 1 (.int .i64 (n : Int))) 2 (.int .i64 m)) 3 (.float .f32 size)) 4 (.float .f32 speed)) 5 (.pointer (some ⟨b1, 0, none⟩))) 12 vz22) 13 (.int .i64 (k : Int))) = tz22 := frame_ok fz22
            rw [← fz22]
            clear fz22
            refine W.seq ?_
            refine W.seq ?_
            refine W.region ?_
            refine L.v (o_move (v := (.int .i64 (k : Int))) rfl) ?_
            refine L.v (o_move (v := (.int .i64 (n : Int))) rfl) ?_
            refine L.v (o_ilss (a := (k : Int)) (b := (n : Int)) rfl rfl rfl) ?_
            refine L.nil ?_
            refine W.cond (b := decide (((k : Int) : Int) < (n : Int))) rfl (fun q23 => ?_) (fun q23 => ?_)
            ·
              have a24 : ((k : Int) : Int) < (n : Int) := of_decide_eq_true q23
              refine W.skip ?_
              refine W.seq ?_
              refine W.block ?_
              refine W.seq ?_
              refine W.region ?_
              refine L.v (o_move (v := (.int .i64 (k : Int))) rfl) ?_
              refine L.v (o_cvIF (a := (k : Int)) (by rw [Try.underlying2]; rfl) Try.underlying24 rfl) ?_
              refine L.v (o_farith (k := .f32) (a := FloatKind.nearest .f32 (k : Int)) (b := 1056964608) rfl rfl rfl) ?_
              refine L.v (o_move (v := (.int .i64 (n : Int))) rfl) ?_
              refine L.v (o_cvIF (a := (n : Int)) (by rw [Try.underlying2]; rfl) Try.underlying24 rfl) ?_
              refine L.v (o_farith (k := .f32) (a := fop .add .f32 (FloatKind.nearest .f32 (k : Int)) 1056964608) (b := FloatKind.nearest .f32 (n : Int)) rfl rfl rfl) ?_
              refine L.v (o_assign (v := (.float .f32 (fop .quo .f32 (fop .add .f32 (FloatKind.nearest .f32 (k : Int)) 1056964608) (FloatKind.nearest .f32 (n : Int))))) rfl) ?_
              refine L.nil ?_
              refine W.seq ?_
              refine W.draw [true, true, true, true, true, true, true, true, true, true, true, true, true, true] (fun s => s = sz22) (by kernel_rfl) (by kernel_rfl) ?_
              refine DL.v (fun _ hD => by cases hD; exact o_fieldAddr (b := b1) (off := 0) (o := 0) (run_fieldAt (f := 0) (fld := { name := "Wide", type := 2, offset := 0, embedded := false, tag := "", pkgPath := "", byteOffset := 0 }) Try.underlying27 rfl Try.sizeOf2 (Nat.succ_ne_zero _)) rfl) ?_
              refine DL.v (fun _ hD => by cases hD; exact o_load (b := b1) (off := 0 + 0) (v := (.int .i64 (w : Int))) Try.isAgg2 rfl (Rd.of (hxz22 _ _ hb6) rfl) rfl) ?_
              refine DL.v (fun _ hD => by cases hD; exact o_cvIF (a := (w : Int)) (by rw [Try.underlying2]; rfl) Try.underlying24 rfl) ?_
              refine DL.v (fun _ hD => by cases hD; exact o_move (v := (.float .f32 (fop .quo .f32 (fop .add .f32 (FloatKind.nearest .f32 (k : Int)) 1056964608) (FloatKind.nearest .f32 (n : Int))))) rfl) ?_
              refine DL.v (fun _ hD => by cases hD; exact o_farith (k := .f32) (a := FloatKind.nearest .f32 (w : Int)) (b := fop .quo .f32 (fop .add .f32 (FloatKind.nearest .f32 (k : Int)) 1056964608) (FloatKind.nearest .f32 (n : Int))) rfl rfl rfl) ?_
              refine DL.v (fun _ hD => by cases hD; exact o_move (v := (.float .f32 size)) rfl) ?_
              refine DL.v (fun _ hD => by cases hD; exact o_move (v := (.int .i64 m)) rfl) ?_
              refine DL.v (fun _ hD => by cases hD; exact o_cvIF (a := m) (by rw [Try.underlying2]; rfl) Try.underlying24 rfl) ?_
              refine DL.v (fun _ hD => by cases hD; exact o_move (v := (.float .f32 (fop .quo .f32 (fop .add .f32 (FloatKind.nearest .f32 (k : Int)) 1056964608) (FloatKind.nearest .f32 (n : Int))))) rfl) ?_
              refine DL.v (fun _ hD => by cases hD; exact o_farith (k := .f32) (a := FloatKind.nearest .f32 m) (b := fop .quo .f32 (fop .add .f32 (FloatKind.nearest .f32 (k : Int)) 1056964608) (FloatKind.nearest .f32 (n : Int))) rfl rfl rfl) ?_
              refine DL.v (v := (.float .f32 (sineA (fop .mul .f32 (FloatKind.nearest .f32 m) (fop .quo .f32 (fop .add .f32 (FloatKind.nearest .f32 (k : Int)) 1056964608) (FloatKind.nearest .f32 (n : Int))))))) (fun _ hD => by cases hD; exact op_call [(.float .f32 (fop .mul .f32 (FloatKind.nearest .f32 m) (fop .quo .f32 (fop .add .f32 (FloatKind.nearest .f32 (k : Int)) 1056964608) (FloatKind.nearest .f32 (n : Int)))))] Try.call53 rfl (specSine (fop .mul .f32 (FloatKind.nearest .f32 m) (fop .quo .f32 (fop .add .f32 (FloatKind.nearest .f32 (k : Int)) 1056964608) (FloatKind.nearest .f32 (n : Int)))))) ?_
              refine DL.v (fun _ hD => by cases hD; exact o_farith (k := .f32) (a := size) (b := sineA (fop .mul .f32 (FloatKind.nearest .f32 m) (fop .quo .f32 (fop .add .f32 (FloatKind.nearest .f32 (k : Int)) 1056964608) (FloatKind.nearest .f32 (n : Int))))) rfl rfl rfl) ?_
              refine DL.v (fun _ hD => by cases hD; exact o_farith (k := .f32) (a := fop .mul .f32 (FloatKind.nearest .f32 (w : Int)) (fop .quo .f32 (fop .add .f32 (FloatKind.nearest .f32 (k : Int)) 1056964608) (FloatKind.nearest .f32 (n : Int)))) (b := fop .mul .f32 size (sineA (fop .mul .f32 (FloatKind.nearest .f32 m) (fop .quo .f32 (fop .add .f32 (FloatKind.nearest .f32 (k : Int)) 1056964608) (FloatKind.nearest .f32 (n : Int)))))) rfl rfl rfl) ?_
              refine DL.v (fun _ hD => by cases hD; exact o_assign (v := (.float .f32 (fop .add .f32 (fop .mul .f32 (FloatKind.nearest .f32 (w : Int)) (fop .quo .f32 (fop .add .f32 (FloatKind.nearest .f32 (k : Int)) 1056964608) (FloatKind.nearest .f32 (n : Int)))) (fop .mul .f32 size (sineA (fop .mul .f32 (FloatKind.nearest .f32 m) (fop .quo .f32 (fop .add .f32 (FloatKind.nearest .f32 (k : Int)) 1056964608) (FloatKind.nearest .f32 (n : Int))))))))) rfl) ?_
              refine DL.nil rfl ?_
              refine W.seq ?_
              refine W.region ?_
              refine L.v (o_move (v := (.float .f32 (fop .add .f32 (fop .mul .f32 (FloatKind.nearest .f32 (w : Int)) (fop .quo .f32 (fop .add .f32 (FloatKind.nearest .f32 (k : Int)) 1056964608) (FloatKind.nearest .f32 (n : Int)))) (fop .mul .f32 size (sineA (fop .mul .f32 (FloatKind.nearest .f32 m) (fop .quo .f32 (fop .add .f32 (FloatKind.nearest .f32 (k : Int)) 1056964608) (FloatKind.nearest .f32 (n : Int))))))))) rfl) ?_
              refine L.v (o_fieldAddr (b := b1) (off := 0) (o := 1) (run_fieldAt (f := 1) (fld := { name := "High", type := 2, offset := 1, embedded := false, tag := "", pkgPath := "", byteOffset := 8 }) Try.underlying27 rfl Try.sizeOf2 (Nat.succ_ne_zero _)) rfl) ?_
              refine L.v (o_load (b := b1) (off := 0 + 1) (v := (.int .i64 (h : Int))) Try.isAgg2 rfl (Rd.of (hxz22 _ _ hb6) rfl) rfl) ?_
              refine L.v (o_cvIF (a := (h : Int)) (by rw [Try.underlying2]; rfl) Try.underlying24 rfl) ?_
              refine L.v (o_farith (k := .f32) (a := FloatKind.nearest .f32 (h : Int)) (b := 1073741824) rfl rfl rfl) ?_
              refine L.v (o_complex (k := .f32) (a := fop .add .f32 (fop .mul .f32 (FloatKind.nearest .f32 (w : Int)) (fop .quo .f32 (fop .add .f32 (FloatKind.nearest .f32 (k : Int)) 1056964608) (FloatKind.nearest .f32 (n : Int)))) (fop .mul .f32 size (sineA (fop .mul .f32 (FloatKind.nearest .f32 m) (fop .quo .f32 (fop .add .f32 (FloatKind.nearest .f32 (k : Int)) 1056964608) (FloatKind.nearest .f32 (n : Int))))))) (b := fop .quo .f32 (FloatKind.nearest .f32 (h : Int)) 1073741824) rfl rfl) ?_
              refine L.v (o_move (v := (.float .f32 speed)) rfl) ?_
              refine L.v (o_complex (k := .f32) (a := speed) (b := 0) rfl rfl) ?_
              refine L.v (v := (.agg #[(.complex .f32 (fop .add .f32 (fop .mul .f32 (FloatKind.nearest .f32 (w : Int)) (fop .quo .f32 (fop .add .f32 (FloatKind.nearest .f32 (k : Int)) 1056964608) (FloatKind.nearest .f32 (n : Int)))) (fop .mul .f32 size (sineA (fop .mul .f32 (FloatKind.nearest .f32 m) (fop .quo .f32 (fop .add .f32 (FloatKind.nearest .f32 (k : Int)) 1056964608) (FloatKind.nearest .f32 (n : Int))))))) (fop .quo .f32 (FloatKind.nearest .f32 (h : Int)) 1073741824)), (.complex .f32 speed 0), (.float .f32 1065353216), (.float .f32 1065353216)])) (o_build_ccff (by intro a b a2 b2 c c2; kernel_rfl) rfl rfl rfl rfl) ?_
              refine L.cons (o_alloc Try.zeroValue85 [(.complex .f32 0 0), (.complex .f32 0 0), (.float .f32 0), (.float .f32 0)] rfl) ?_
              rintro _ _ ⟨b25, hf26, hw27, rfl, rfl⟩
              refine L.cons0 (o_stores (b := b25) (off := 0) (vs := [(.complex .f32 (fop .add .f32 (fop .mul .f32 (FloatKind.nearest .f32 (w : Int)) (fop .quo .f32 (fop .add .f32 (FloatKind.nearest .f32 (k : Int)) 1056964608) (FloatKind.nearest .f32 (n : Int)))) (fop .mul .f32 size (sineA (fop .mul .f32 (FloatKind.nearest .f32 m) (fop .quo .f32 (fop .add .f32 (FloatKind.nearest .f32 (k : Int)) 1056964608) (FloatKind.nearest .f32 (n : Int))))))) (fop .quo .f32 (FloatKind.nearest .f32 (h : Int)) 1073741824)), (.complex .f32 speed 0), (.float .f32 1065353216), (.float .f32 1065353216)]) Try.sizeOf85 rfl rfl rfl (by simp [Value.oneCell']) (sg_eq _ _ _) (by show _ ≤ 4; decide) hw27) ?_
              rintro _ _ ⟨rfl, rfl⟩
              rw [sg_sg]
              show L _ _ _ _ _ _ _ (sg sz22 b25 (85, [(.complex .f32 (fop .add .f32 (fop .mul .f32 (FloatKind.nearest .f32 (w : Int)) (fop .quo .f32 (fop .add .f32 (FloatKind.nearest .f32 (k : Int)) 1056964608) (FloatKind.nearest .f32 (n : Int)))) (fop .mul .f32 size (sineA (fop .mul .f32 (FloatKind.nearest .f32 m) (fop .quo .f32 (fop .add .f32 (FloatKind.nearest .f32 (k : Int)) 1056964608) (FloatKind.nearest .f32 (n : Int))))))) (fop .quo .f32 (FloatKind.nearest .f32 (h : Int)) 1073741824)), (.complex .f32 speed 0), (.float .f32 1065353216), (.float .f32 1065353216)]))
              have hx28 := Ext.trans hxz22 ((Ext.refl _).sg (x := (85, [(.complex .f32 (fop .add .f32 (fop .mul .f32 (FloatKind.nearest .f32 (w : Int)) (fop .quo .f32 (fop .add .f32 (FloatKind.nearest .f32 (k : Int)) 1056964608) (FloatKind.nearest .f32 (n : Int)))) (fop .mul .f32 size (sineA (fop .mul .f32 (FloatKind.nearest .f32 m) (fop .quo .f32 (fop .add .f32 (FloatKind.nearest .f32 (k : Int)) 1056964608) (FloatKind.nearest .f32 (n : Int))))))) (fop .quo .f32 (FloatKind.nearest .f32 (h : Int)) 1073741824)), (.complex .f32 speed 0), (.float .f32 1065353216), (.float .f32 1065353216)])) hf26)
              have ho29 := Own.ext hoz22 ((Ext.refl _).sg (x := (85, [(.complex .f32 (fop .add .f32 (fop .mul .f32 (FloatKind.nearest .f32 (w : Int)) (fop .quo .f32 (fop .add .f32 (FloatKind.nearest .f32 (k : Int)) 1056964608) (FloatKind.nearest .f32 (n : Int)))) (fop .mul .f32 size (sineA (fop .mul .f32 (FloatKind.nearest .f32 m) (fop .quo .f32 (fop .add .f32 (FloatKind.nearest .f32 (k : Int)) 1056964608) (FloatKind.nearest .f32 (n : Int))))))) (fop .quo .f32 (FloatKind.nearest .f32 (h : Int)) 1073741824)), (.complex .f32 speed 0), (.float .f32 1065353216), (.float .f32 1065353216)])) hf26)
              have hb30 : (sg sz22 b25 (85, [(.complex .f32 (fop .add .f32 (fop .mul .f32 (FloatKind.nearest .f32 (w : Int)) (fop .quo .f32 (fop .add .f32 (FloatKind.nearest .f32 (k : Int)) 1056964608) (FloatKind.nearest .f32 (n : Int)))) (fop .mul .f32 size (sineA (fop .mul .f32 (FloatKind.nearest .f32 m) (fop .quo .f32 (fop .add .f32 (FloatKind.nearest .f32 (k : Int)) 1056964608) (FloatKind.nearest .f32 (n : Int))))))) (fop .quo .f32 (FloatKind.nearest .f32 (h : Int)) 1073741824)), (.complex .f32 speed 0), (.float .f32 1065353216), (.float .f32 1065353216)])) b25 = some (85, [(.complex .f32 (fop .add .f32 (fop .mul .f32 (FloatKind.nearest .f32 (w : Int)) (fop .quo .f32 (fop .add .f32 (FloatKind.nearest .f32 (k : Int)) 1056964608) (FloatKind.nearest .f32 (n : Int)))) (fop .mul .f32 size (sineA (fop .mul .f32 (FloatKind.nearest .f32 m) (fop .quo .f32 (fop .add .f32 (FloatKind.nearest .f32 (k : Int)) 1056964608) (FloatKind.nearest .f32 (n : Int))))))) (fop .quo .f32 (FloatKind.nearest .f32 (h : Int)) 1073741824)), (.complex .f32 speed 0), (.float .f32 1065353216), (.float .f32 1065353216)]) := sg_eq _ _ _
              refine L.nil ?_
              refine W.seq ?_
              refine W.seq ?_
              refine W.region ?_
              refine L.v (v := (.bool (partB (fop .add .f32 (fop .mul .f32 (FloatKind.nearest .f32 (w : Int)) (fop .quo .f32 (fop .add .f32 (FloatKind.nearest .f32 (k : Int)) 1056964608) (FloatKind.nearest .f32 (n : Int)))) (fop .mul .f32 size (sineA (fop .mul .f32 (FloatKind.nearest .f32 m) (fop .quo .f32 (fop .add .f32 (FloatKind.nearest .f32 (k : Int)) 1056964608) (FloatKind.nearest .f32 (n : Int))))))) (fop .quo .f32 (FloatKind.nearest .f32 (h : Int)) 1073741824) speed 0 1065353216 1065353216))) (op_call [(.pointer (some ⟨b25, 0, none⟩))] Try.call57 rfl (specPart b25 _ (fop .add .f32 (fop .mul .f32 (FloatKind.nearest .f32 (w : Int)) (fop .quo .f32 (fop .add .f32 (FloatKind.nearest .f32 (k : Int)) 1056964608) (FloatKind.nearest .f32 (n : Int)))) (fop .mul .f32 size (sineA (fop .mul .f32 (FloatKind.nearest .f32 m) (fop .quo .f32 (fop .add .f32 (FloatKind.nearest .f32 (k : Int)) 1056964608) (FloatKind.nearest .f32 (n : Int))))))) (fop .quo .f32 (FloatKind.nearest .f32 (h : Int)) 1073741824) speed 0 1065353216 1065353216 hb30)) ?_
              refine L.v (o_not (b := partB (fop .add .f32 (fop .mul .f32 (FloatKind.nearest .f32 (w : Int)) (fop .quo .f32 (fop .add .f32 (FloatKind.nearest .f32 (k : Int)) 1056964608) (FloatKind.nearest .f32 (n : Int)))) (fop .mul .f32 size (sineA (fop .mul .f32 (FloatKind.nearest .f32 m) (fop .quo .f32 (fop .add .f32 (FloatKind.nearest .f32 (k : Int)) 1056964608) (FloatKind.nearest .f32 (n : Int))))))) (fop .quo .f32 (FloatKind.nearest .f32 (h : Int)) 1073741824) speed 0 1065353216 1065353216) rfl rfl) ?_
              refine L.nil ?_
              refine W.condF (b := !(partB (fop .add .f32 (fop .mul .f32 (FloatKind.nearest .f32 (w : Int)) (fop .quo .f32 (fop .add .f32 (FloatKind.nearest .f32 (k : Int)) 1056964608) (FloatKind.nearest .f32 (n : Int)))) (fop .mul .f32 size (sineA (fop .mul .f32 (FloatKind.nearest .f32 m) (fop .quo .f32 (fop .add .f32 (FloatKind.nearest .f32 (k : Int)) 1056964608) (FloatKind.nearest .f32 (n : Int))))))) (fop .quo .f32 (FloatKind.nearest .f32 (h : Int)) 1073741824) speed 0 1065353216 1065353216)) rfl (nb_t (part_ok (wx_fin (w := w) (m := m) (n := n) (size := size) (k := k) (by omega) (by omega) (by omega) (by omega) (bn_f (by assumption))) (nat_sf (n := h) (by omega)).2 (bn_f (by assumption)))) ?_
              refine W.skip ?_
              refine W.region ?_
              refine L.v (o_move (v := vz22) rfl) ?_
              refine L.v (o_loads (b := b25) (off := 0) (vs := [(.complex .f32 (fop .add .f32 (fop .mul .f32 (FloatKind.nearest .f32 (w : Int)) (fop .quo .f32 (fop .add .f32 (FloatKind.nearest .f32 (k : Int)) 1056964608) (FloatKind.nearest .f32 (n : Int)))) (fop .mul .f32 size (sineA (fop .mul .f32 (FloatKind.nearest .f32 m) (fop .quo .f32 (fop .add .f32 (FloatKind.nearest .f32 (k : Int)) 1056964608) (FloatKind.nearest .f32 (n : Int))))))) (fop .quo .f32 (FloatKind.nearest .f32 (h : Int)) 1073741824)), (.complex .f32 speed 0), (.float .f32 1065353216), (.float .f32 1065353216)]) Try.isAgg85 Try.sizeOf85 rfl rfl (Rds.of hb30 (by intro j v hj; simpa using hj))) ?_
              refine L.cons (o_buildSlice1 (info := Try.t85) (z := (.agg #[.complex .f32 0 0, .complex .f32 0 0, .float .f32 0, .float .f32 0])) (k := 4) [(.complex .f32 (fop .add .f32 (fop .mul .f32 (FloatKind.nearest .f32 (w : Int)) (fop .quo .f32 (fop .add .f32 (FloatKind.nearest .f32 (k : Int)) 1056964608) (FloatKind.nearest .f32 (n : Int)))) (fop .mul .f32 size (sineA (fop .mul .f32 (FloatKind.nearest .f32 m) (fop .quo .f32 (fop .add .f32 (FloatKind.nearest .f32 (k : Int)) 1056964608) (FloatKind.nearest .f32 (n : Int))))))) (fop .quo .f32 (FloatKind.nearest .f32 (h : Int)) 1073741824)), (.complex .f32 speed 0), (.float .f32 1065353216), (.float .f32 1065353216)] Try.underlying44 Try.type85 rfl rfl rfl rfl (by decide) rfl) ?_
              rintro _ _ ⟨b31, hf32, hw33, rfl, rfl⟩
              have hx34 := Ext.trans hx28 ((Ext.refl _).sg (x := (85, [(.complex .f32 (fop .add .f32 (fop .mul .f32 (FloatKind.nearest .f32 (w : Int)) (fop .quo .f32 (fop .add .f32 (FloatKind.nearest .f32 (k : Int)) 1056964608) (FloatKind.nearest .f32 (n : Int)))) (fop .mul .f32 size (sineA (fop .mul .f32 (FloatKind.nearest .f32 m) (fop .quo .f32 (fop .add .f32 (FloatKind.nearest .f32 (k : Int)) 1056964608) (FloatKind.nearest .f32 (n : Int))))))) (fop .quo .f32 (FloatKind.nearest .f32 (h : Int)) 1073741824)), (.complex .f32 speed 0), (.float .f32 1065353216), (.float .f32 1065353216)])) hf32)
              have ho35 := Own.ext ho29 ((Ext.refl _).sg (x := (85, [(.complex .f32 (fop .add .f32 (fop .mul .f32 (FloatKind.nearest .f32 (w : Int)) (fop .quo .f32 (fop .add .f32 (FloatKind.nearest .f32 (k : Int)) 1056964608) (FloatKind.nearest .f32 (n : Int)))) (fop .mul .f32 size (sineA (fop .mul .f32 (FloatKind.nearest .f32 m) (fop .quo .f32 (fop .add .f32 (FloatKind.nearest .f32 (k : Int)) 1056964608) (FloatKind.nearest .f32 (n : Int))))))) (fop .quo .f32 (FloatKind.nearest .f32 (h : Int)) 1073741824)), (.complex .f32 speed 0), (.float .f32 1065353216), (.float .f32 1065353216)])) hf32)
              refine L.cons (o_append (info := Try.t85) (z := (.agg #[.complex .f32 0 0, .complex .f32 0 0, .float .f32 0, .float .f32 0])) (size := 4) (bytes := 24) (v := vz22) (n := k) (m := 1) (c := 1) (b := b31) (off := 0) (xs := ((ptTo w h m n size speed (k)).map pt).flatten) (news := [(.complex .f32 (fop .add .f32 (fop .mul .f32 (FloatKind.nearest .f32 (w : Int)) (fop .quo .f32 (fop .add .f32 (FloatKind.nearest .f32 (k : Int)) 1056964608) (FloatKind.nearest .f32 (n : Int)))) (fop .mul .f32 size (sineA (fop .mul .f32 (FloatKind.nearest .f32 m) (fop .quo .f32 (fop .add .f32 (FloatKind.nearest .f32 (k : Int)) 1056964608) (FloatKind.nearest .f32 (n : Int))))))) (fop .quo .f32 (FloatKind.nearest .f32 (h : Int)) 1073741824)), (.complex .f32 speed 0), (.float .f32 1065353216), (.float .f32 1065353216)]) Try.underlying44 Try.type85 rfl rfl rfl rfl rfl ho35 rfl (by decide) rfl (Rds.of (sg_eq _ _ _) (by intro j v hj; simpa using hj)) (by simp [Value.oneCell']) (by unfold maxLen; omega) (by omega)) ?_
              rintro v36 s37 ⟨ho38, gr39⟩
              have hx40 := Grew.ext gr39 hx34 hvz22
              have hv41 := Grew.fresh gr39 hx34 hvz22
              refine L.v (o_assign (v := v36) rfl) ?_
              refine L.nil ?_
              refine W.region ?_
              refine L.v (o_move (v := (.int .i64 (k : Int))) rfl) ?_
              refine L.v (o_iadd (a := (k : Int)) (b := 1) (c := ((k + 1 : Nat) : Int)) rfl rfl (by rw [IntWalk.i64_in _ (by omega)]; try omega)) ?_
              refine L.v (o_assign (v := (.int .i64 (((k + 1 : Nat) : Int)))) rfl) ?_
              refine L.nil ?_
              exact ⟨_, (by omega), k + 1, v36, rfl, by omega, (by rw [ptTo_succ, List.map_append, List.flatten_append]; exact ho38), hx40, hv41, ⟨rfl, rfl, rfl, rfl, rfl, rfl, rfl, trivial⟩⟩
            ·
              have a42 : ¬ (((k : Int) : Int) < (n : Int)) := of_decide_eq_false q23
              refine W.exit ?_
              refine W.seq ?_
              refine W.region ?_
              refine L.v (o_move (v := vz22) rfl) ?_
              refine L.v (o_assign (v := vz22) rfl) ?_
              refine L.v (o_assign (v := (.bool true)) rfl) ?_
              refine L.nil ?_
              refine W.ret ?_
              obtain rfl : n = k := by omega
              have hwb : ptB (w : Int) (h : Int) (n : Int) m size speed = true := by unfold ptB; cases hfs : finB size <;> cases hft : finB speed <;> by_cases g1 : (4 ≤ (w : Int) ∧ (w : Int) ≤ 16) ∧ 4 ≤ (h : Int) ∧ (h : Int) ≤ 16 <;> by_cases g2 : 1 ≤ (n : Int) ∧ (n : Int) ≤ 64 <;> by_cases g3 : 0 ≤ m ∧ m ≤ (w : Int) <;> simp_all <;> omega
              obtain ⟨p', c', hpc, hfs⟩ := Fsl.of_own (rows := (ptTo w h m n size speed n).map pt) (n := n) hoz22 (by rw [List.length_map, ptTo_len]) (pt_all _) hxz22 hvz22
              subst hpc
              exact RetK.two _ (.slice p' n c') (.bool true) rfl rfl rfl rfl rfl (Ext.refl _) ⟨p', c', by rw [ptF_yes hwb, hwb, ptTo_len], by rw [ptF_yes hwb]; exact Fsl.weaken hfs ehx5⟩

theorem implPts {w0 : World} {σ : Sg} (gx gy c m : Int) (size speed : Nat) :
    Fn Try.prog w0 26 [(.agg #[(.int .i64 gx), (.int .i64 gy)]), (.int .i64 c), (.int .i64 m), (.float .f32 size), (.float .f32 speed)] σ (RetFS w0 σ 4 ((ptF gx gy c m size speed).map pt) (ptF gx gy c m size speed).length (fun v => .tuple #[v, .bool (ptB gx gy c m size speed)])) := by
  refine Fn.of_W 75 Try.func26 rfl Try.ntmps26 rfl ?_
  refine W.seq ?_
  refine W.region ?_
  refine L.cons (o_box (v := (.agg #[(.int .i64 gx), (.int .i64 gy)])) rfl rfl [(.int .i64 gx), (.int .i64 gy)] rfl) ?_
  rintro _ _ ⟨b1, hf2, hw3, rfl, rfl⟩
  have fz7 := Ext.none (Ext.refl _) hf2
  have hb6 : (sg σ b1 (27, [(.int .i64 gx), (.int .i64 gy)])) b1 = some (27, [(.int .i64 gx), (.int .i64 gy)]) := sg_eq _ _ _
  have hx5 : Ext σ (sg σ b1 (27, [(.int .i64 gx), (.int .i64 gy)])) := (Ext.refl _).sg hf2
  have ehx5 := Ext.trans (Ext.refl _) hx5
  generalize hgs4 : sg σ b1 (27, [(.int .i64 gx), (.int .i64 gy)]) = s4 at *
  clear hgs4
  refine L.v (o_assign (v := (.slice none 0 0)) rfl) ?_
  refine L.v (o_assign (v := (.bool false)) rfl) ?_
  refine L.nil ?_
  refine W.seq ?_
  refine W.seq ?_
  refine W.region ?_
  refine L.v (o_loads (b := b1) (off := 0) (vs := [(.int .i64 gx), (.int .i64 gy)]) Try.isAgg27 Try.sizeOf27 rfl rfl (Rds.of hb6 (by intro j v hj; simpa using hj))) ?_
  refine L.v (v := (.bool (decide ((4 ≤ (gx : Int) ∧ (gx : Int) ≤ 16) ∧ 4 ≤ (gy : Int) ∧ (gy : Int) ≤ 16)))) (op_call [(.agg #[(.int .i64 gx), (.int .i64 gy)])] Try.call49 rfl (implIs gx gy)) ?_
  refine L.v (o_not (b := decide ((4 ≤ (gx : Int) ∧ (gx : Int) ≤ 16) ∧ 4 ≤ (gy : Int) ∧ (gy : Int) ≤ 16)) rfl rfl) ?_
  refine L.v (o_move (v := (.bool (!(decide ((4 ≤ (gx : Int) ∧ (gx : Int) ≤ 16) ∧ 4 ≤ (gy : Int) ∧ (gy : Int) ≤ 16))))) rfl) ?_
  rcases Bool.eq_false_or_eq_true (!(decide ((4 ≤ (gx : Int) ∧ (gx : Int) ≤ 16) ∧ 4 ≤ (gy : Int) ∧ (gy : Int) ≤ 16))) with q8 | q8
  ·
    have a9 : ¬ ((4 ≤ (gx : Int) ∧ (gx : Int) ≤ 16) ∧ 4 ≤ (gy : Int) ∧ (gy : Int) ≤ 16) := of_decide_eq_false (bn_t q8)
    refine L.gF (j := 3) (d₁ := 19) (b := !(decide ((4 ≤ (gx : Int) ∧ (gx : Int) ≤ 16) ∧ 4 ≤ (gy : Int) ∧ (gy : Int) ≤ 16))) rfl rfl rfl q8 ?_
    refine L.gF (j := 3) (d₁ := 19) (b := !(decide ((4 ≤ (gx : Int) ∧ (gx : Int) ≤ 16) ∧ 4 ≤ (gy : Int) ∧ (gy : Int) ≤ 16))) rfl rfl rfl q8 ?_
    refine L.gF (j := 3) (d₁ := 19) (b := !(decide ((4 ≤ (gx : Int) ∧ (gx : Int) ≤ 16) ∧ 4 ≤ (gy : Int) ∧ (gy : Int) ≤ 16))) rfl rfl rfl q8 ?_
    refine L.v (o_pickT (b := !(decide ((4 ≤ (gx : Int) ∧ (gx : Int) ≤ 16) ∧ 4 ≤ (gy : Int) ∧ (gy : Int) ≤ 16))) (v := (.bool true)) rfl q8 rfl) ?_
    refine L.v (o_move (v := (.bool true)) rfl) ?_
    refine L.gF (j := 8) (d₁ := 24) (b := true) rfl rfl rfl rfl ?_
    refine L.gF (j := 8) (d₁ := 24) (b := true) rfl rfl rfl rfl ?_
    refine L.gF (j := 8) (d₁ := 24) (b := true) rfl rfl rfl rfl ?_
    refine L.gF (j := 8) (d₁ := 24) (b := true) rfl rfl rfl rfl ?_
    refine L.gF (j := 8) (d₁ := 24) (b := true) rfl rfl rfl rfl ?_
    refine L.v (o_pickT (b := true) (v := (.bool true)) rfl rfl rfl) ?_
    refine L.v (o_move (v := (.bool true)) rfl) ?_
    refine L.gF (j := 15) (d₁ := 31) (b := true) rfl rfl rfl rfl ?_
    refine L.gF (j := 15) (d₁ := 31) (b := true) rfl rfl rfl rfl ?_
    refine L.gF (j := 15) (d₁ := 31) (b := true) rfl rfl rfl rfl ?_
    refine L.gF (j := 15) (d₁ := 31) (b := true) rfl rfl rfl rfl ?_
    refine L.gF (j := 15) (d₁ := 31) (b := true) rfl rfl rfl rfl ?_
    refine L.v (o_pickT (b := true) (v := (.bool true)) rfl rfl rfl) ?_
    refine L.nil ?_
    refine W.condT (b := true) rfl rfl ?_
    refine W.seq ?_
    refine W.region ?_
    refine L.v (o_assign (v := (.slice none 0 0)) rfl) ?_
    refine L.v (o_assign (v := (.bool false)) rfl) ?_
    refine L.nil ?_
    refine W.ret ?_
    have hwn : ptB gx gy c m size speed = false := (by unfold ptB; cases hfs : finB size <;> cases hft : finB speed <;> by_cases g1 : (4 ≤ gx ∧ gx ≤ 16) ∧ 4 ≤ gy ∧ gy ≤ 16 <;> by_cases g2 : 1 ≤ c ∧ c ≤ 64 <;> by_cases g3 : 0 ≤ m ∧ m ≤ gx <;> simp_all <;> omega)
    exact RetK.two σ (.slice none 0 0) (.bool false) rfl rfl rfl rfl rfl ehx5 ⟨none, 0, by rw [ptF_no hwn, hwn]; rfl, by rw [ptF_no hwn]; exact Fsl.nil 4⟩
  ·
    have a10 : (4 ≤ (gx : Int) ∧ (gx : Int) ≤ 16) ∧ 4 ≤ (gy : Int) ∧ (gy : Int) ≤ 16 := of_decide_eq_true (bn_f q8)
    refine L.gv (j := 3) (d₁ := 19) (b := !(decide ((4 ≤ (gx : Int) ∧ (gx : Int) ≤ 16) ∧ 4 ≤ (gy : Int) ∧ (gy : Int) ≤ 16))) rfl rfl rfl q8 (o_move (v := (.int .i64 c)) rfl) ?_
    refine L.gv (j := 3) (d₁ := 19) (b := !(decide ((4 ≤ (gx : Int) ∧ (gx : Int) ≤ 16) ∧ 4 ≤ (gy : Int) ∧ (gy : Int) ≤ 16))) rfl rfl rfl q8 (v := (.bool (decide ((1 : Int) ≤ c ∧ (c : Int) ≤ 64)))) (op_call [(.int .i64 c), (.int .i64 1), (.int .i64 64)] Try.call50 rfl (withinI c 1 64)) ?_
    refine L.gv (j := 3) (d₁ := 19) (b := !(decide ((4 ≤ (gx : Int) ∧ (gx : Int) ≤ 16) ∧ 4 ≤ (gy : Int) ∧ (gy : Int) ≤ 16))) rfl rfl rfl q8 (o_not (b := decide ((1 : Int) ≤ c ∧ (c : Int) ≤ 64)) rfl rfl) ?_
    refine L.v (o_pickF (b := !(decide ((4 ≤ (gx : Int) ∧ (gx : Int) ≤ 16) ∧ 4 ≤ (gy : Int) ∧ (gy : Int) ≤ 16))) (v := (.bool (!(decide ((1 : Int) ≤ c ∧ (c : Int) ≤ 64))))) rfl q8 rfl) ?_
    refine L.v (o_move (v := (.bool (!(decide ((1 : Int) ≤ c ∧ (c : Int) ≤ 64))))) rfl) ?_
    rcases Bool.eq_false_or_eq_true (!(decide ((1 : Int) ≤ c ∧ (c : Int) ≤ 64))) with q11 | q11
    ·
      have a12 : ¬ ((1 : Int) ≤ c ∧ (c : Int) ≤ 64) := of_decide_eq_false (bn_t q11)
      refine L.gF (j := 8) (d₁ := 24) (b := !(decide ((1 : Int) ≤ c ∧ (c : Int) ≤ 64))) rfl rfl rfl q11 ?_
      refine L.gF (j := 8) (d₁ := 24) (b := !(decide ((1 : Int) ≤ c ∧ (c : Int) ≤ 64))) rfl rfl rfl q11 ?_
      refine L.gF (j := 8) (d₁ := 24) (b := !(decide ((1 : Int) ≤ c ∧ (c : Int) ≤ 64))) rfl rfl rfl q11 ?_
      refine L.gF (j := 8) (d₁ := 24) (b := !(decide ((1 : Int) ≤ c ∧ (c : Int) ≤ 64))) rfl rfl rfl q11 ?_
      refine L.gF (j := 8) (d₁ := 24) (b := !(decide ((1 : Int) ≤ c ∧ (c : Int) ≤ 64))) rfl rfl rfl q11 ?_
      refine L.v (o_pickT (b := !(decide ((1 : Int) ≤ c ∧ (c : Int) ≤ 64))) (v := (.bool true)) rfl q11 rfl) ?_
      refine L.v (o_move (v := (.bool true)) rfl) ?_
      refine L.gF (j := 15) (d₁ := 31) (b := true) rfl rfl rfl rfl ?_
      refine L.gF (j := 15) (d₁ := 31) (b := true) rfl rfl rfl rfl ?_
      refine L.gF (j := 15) (d₁ := 31) (b := true) rfl rfl rfl rfl ?_
      refine L.gF (j := 15) (d₁ := 31) (b := true) rfl rfl rfl rfl ?_
      refine L.gF (j := 15) (d₁ := 31) (b := true) rfl rfl rfl rfl ?_
      refine L.v (o_pickT (b := true) (v := (.bool true)) rfl rfl rfl) ?_
      refine L.nil ?_
      refine W.condT (b := true) rfl rfl ?_
      refine W.seq ?_
      refine W.region ?_
      refine L.v (o_assign (v := (.slice none 0 0)) rfl) ?_
      refine L.v (o_assign (v := (.bool false)) rfl) ?_
      refine L.nil ?_
      refine W.ret ?_
      have hwn : ptB gx gy c m size speed = false := (by unfold ptB; cases hfs : finB size <;> cases hft : finB speed <;> by_cases g1 : (4 ≤ gx ∧ gx ≤ 16) ∧ 4 ≤ gy ∧ gy ≤ 16 <;> by_cases g2 : 1 ≤ c ∧ c ≤ 64 <;> by_cases g3 : 0 ≤ m ∧ m ≤ gx <;> simp_all <;> omega)
      exact RetK.two σ (.slice none 0 0) (.bool false) rfl rfl rfl rfl rfl ehx5 ⟨none, 0, by rw [ptF_no hwn, hwn]; rfl, by rw [ptF_no hwn]; exact Fsl.nil 4⟩
    ·
      have a13 : (1 : Int) ≤ c ∧ (c : Int) ≤ 64 := of_decide_eq_true (bn_f q11)
      refine L.gv (j := 8) (d₁ := 24) (b := !(decide ((1 : Int) ≤ c ∧ (c : Int) ≤ 64))) rfl rfl rfl q11 (o_move (v := (.int .i64 m)) rfl) ?_
      refine L.gv (j := 8) (d₁ := 24) (b := !(decide ((1 : Int) ≤ c ∧ (c : Int) ≤ 64))) rfl rfl rfl q11 (o_fieldAddr (b := b1) (off := 0) (o := 0) (run_fieldAt (f := 0) (fld := { name := "Wide", type := 2, offset := 0, embedded := false, tag := "", pkgPath := "", byteOffset := 0 }) Try.underlying27 rfl Try.sizeOf2 (Nat.succ_ne_zero _)) rfl) ?_
      refine L.gv (j := 8) (d₁ := 24) (b := !(decide ((1 : Int) ≤ c ∧ (c : Int) ≤ 64))) rfl rfl rfl q11 (o_load (b := b1) (off := 0 + 0) (v := (.int .i64 gx)) Try.isAgg2 rfl (Rd.of hb6 rfl) rfl) ?_
      refine L.gv (j := 8) (d₁ := 24) (b := !(decide ((1 : Int) ≤ c ∧ (c : Int) ≤ 64))) rfl rfl rfl q11 (v := (.bool (decide ((0 : Int) ≤ m ∧ (m : Int) ≤ gx)))) (op_call [(.int .i64 m), (.int .i64 0), (.int .i64 gx)] Try.call50 rfl (withinI m 0 gx)) ?_
      refine L.gv (j := 8) (d₁ := 24) (b := !(decide ((1 : Int) ≤ c ∧ (c : Int) ≤ 64))) rfl rfl rfl q11 (o_not (b := decide ((0 : Int) ≤ m ∧ (m : Int) ≤ gx)) rfl rfl) ?_
      refine L.v (o_pickF (b := !(decide ((1 : Int) ≤ c ∧ (c : Int) ≤ 64))) (v := (.bool (!(decide ((0 : Int) ≤ m ∧ (m : Int) ≤ gx))))) rfl q11 rfl) ?_
      refine L.v (o_move (v := (.bool (!(decide ((0 : Int) ≤ m ∧ (m : Int) ≤ gx))))) rfl) ?_
      rcases Bool.eq_false_or_eq_true (!(decide ((0 : Int) ≤ m ∧ (m : Int) ≤ gx))) with q14 | q14
      ·
        have a15 : ¬ ((0 : Int) ≤ m ∧ (m : Int) ≤ gx) := of_decide_eq_false (bn_t q14)
        refine L.gF (j := 15) (d₁ := 31) (b := !(decide ((0 : Int) ≤ m ∧ (m : Int) ≤ gx))) rfl rfl rfl q14 ?_
        refine L.gF (j := 15) (d₁ := 31) (b := !(decide ((0 : Int) ≤ m ∧ (m : Int) ≤ gx))) rfl rfl rfl q14 ?_
        refine L.gF (j := 15) (d₁ := 31) (b := !(decide ((0 : Int) ≤ m ∧ (m : Int) ≤ gx))) rfl rfl rfl q14 ?_
        refine L.gF (j := 15) (d₁ := 31) (b := !(decide ((0 : Int) ≤ m ∧ (m : Int) ≤ gx))) rfl rfl rfl q14 ?_
        refine L.gF (j := 15) (d₁ := 31) (b := !(decide ((0 : Int) ≤ m ∧ (m : Int) ≤ gx))) rfl rfl rfl q14 ?_
        refine L.v (o_pickT (b := !(decide ((0 : Int) ≤ m ∧ (m : Int) ≤ gx))) (v := (.bool true)) rfl q14 rfl) ?_
        refine L.nil ?_
        refine W.condT (b := true) rfl rfl ?_
        refine W.seq ?_
        refine W.region ?_
        refine L.v (o_assign (v := (.slice none 0 0)) rfl) ?_
        refine L.v (o_assign (v := (.bool false)) rfl) ?_
        refine L.nil ?_
        refine W.ret ?_
        have hwn : ptB gx gy c m size speed = false := (by unfold ptB; cases hfs : finB size <;> cases hft : finB speed <;> by_cases g1 : (4 ≤ gx ∧ gx ≤ 16) ∧ 4 ≤ gy ∧ gy ≤ 16 <;> by_cases g2 : 1 ≤ c ∧ c ≤ 64 <;> by_cases g3 : 0 ≤ m ∧ m ≤ gx <;> simp_all <;> omega)
        exact RetK.two σ (.slice none 0 0) (.bool false) rfl rfl rfl rfl rfl ehx5 ⟨none, 0, by rw [ptF_no hwn, hwn]; rfl, by rw [ptF_no hwn]; exact Fsl.nil 4⟩
      ·
        have a16 : (0 : Int) ≤ m ∧ (m : Int) ≤ gx := of_decide_eq_true (bn_f q14)
        refine L.gv (j := 15) (d₁ := 31) (b := !(decide ((0 : Int) ≤ m ∧ (m : Int) ≤ gx))) rfl rfl rfl q14 (o_move (v := (.float .f32 size)) rfl) ?_
        refine L.gv (j := 15) (d₁ := 31) (b := !(decide ((0 : Int) ≤ m ∧ (m : Int) ≤ gx))) rfl rfl rfl q14 (o_move (v := (.float .f32 speed)) rfl) ?_
        refine L.gT (j := 15) (d₁ := 31) (b := !(decide ((0 : Int) ≤ m ∧ (m : Int) ≤ gx))) rfl rfl rfl q14 (o_buildSlice (info := Try.t24) (z := .float .f32 0) [(.float .f32 size), (.float .f32 speed)] Try.underlying32 Try.type24 rfl rfl rfl rfl (by decide) rfl rfl (by simp [Value.oneCell'])) ?_
        rintro _ _ ⟨b17, hf18, hw19, rfl, rfl⟩
        have fz23 := Ext.none ehx5 hf18
        have ne24 := ne_of_free hb6 hf18
        have hb22 : (sg s4 b17 (24, [(.float .f32 size), (.float .f32 speed)])) b17 = some (24, [(.float .f32 size), (.float .f32 speed)]) := sg_eq _ _ _
        have hx21 : Ext s4 (sg s4 b17 (24, [(.float .f32 size), (.float .f32 speed)])) := (Ext.refl _).sg hf18
        have hb25 := hx21 _ _ hb6
        have ehx21 := Ext.trans ehx5 hx21
        generalize hgs20 : sg s4 b17 (24, [(.float .f32 size), (.float .f32 speed)]) = s20 at *
        clear hgs20
        refine L.gv (j := 15) (d₁ := 31) (b := !(decide ((0 : Int) ≤ m ∧ (m : Int) ≤ gx))) rfl rfl rfl q14 (v := (.bool (finB size && finB speed))) (op_call [(.slice (some ⟨b17, 0, none⟩) 2 2)] Try.call54 rfl (areFin2 b17 0 size speed (Sl.of (e := 24) (f := fl) (xs := [size, speed]) hb22 (by simp [fl])))) ?_
        refine L.gv (j := 15) (d₁ := 31) (b := !(decide ((0 : Int) ≤ m ∧ (m : Int) ≤ gx))) rfl rfl rfl q14 (o_not (b := finB size && finB speed) rfl rfl) ?_
        refine L.v (o_pickF (b := !(decide ((0 : Int) ≤ m ∧ (m : Int) ≤ gx))) (v := (.bool (!(finB size && finB speed)))) rfl q14 rfl) ?_
        refine L.nil ?_
        refine W.cond (b := !(finB size && finB speed)) rfl (fun q26 => ?_) (fun q26 => ?_)
        ·
          refine W.seq ?_
          refine W.region ?_
          refine L.v (o_assign (v := (.slice none 0 0)) rfl) ?_
          refine L.v (o_assign (v := (.bool false)) rfl) ?_
          refine L.nil ?_
          refine W.ret ?_
          have hwn : ptB gx gy c m size speed = false := (by unfold ptB; cases hfs : finB size <;> cases hft : finB speed <;> by_cases g1 : (4 ≤ gx ∧ gx ≤ 16) ∧ 4 ≤ gy ∧ gy ≤ 16 <;> by_cases g2 : 1 ≤ c ∧ c ≤ 64 <;> by_cases g3 : 0 ≤ m ∧ m ≤ gx <;> simp_all <;> omega)
          exact RetK.two σ (.slice none 0 0) (.bool false) rfl rfl rfl rfl rfl ehx21 ⟨none, 0, by rw [ptF_no hwn, hwn]; rfl, by rw [ptF_no hwn]; exact Fsl.nil 4⟩
        ·
          refine W.skip ?_
          refine W.seq ?_
          obtain ⟨w, rfl⟩ : ∃ w : Nat, gx = (w : Int) := ⟨gx.toNat, by omega⟩
          obtain ⟨h, rfl⟩ : ∃ h : Nat, gy = (h : Int) := ⟨gy.toNat, by omega⟩
          obtain ⟨n, rfl⟩ : ∃ n : Nat, c = (n : Int) := ⟨c.toNat, by omega⟩
          refine W.region ?_
          refine L.v (o_assign (v := (.slice none 0 0)) rfl) ?_
          refine L.nil ?_
          refine W.seq ?_
          refine W.seq ?_
          refine W.region ?_
          refine L.v (o_move (v := (.int .i64 (n : Int))) rfl) ?_
          refine L.v (o_move (v := (.int .i64 0)) rfl) ?_
          refine L.nil ?_
          refine W.block ?_
          have ho0 := Own.nil (w0 := w0) (σ := s20) 85 4
          have hx0 := Ext.refl s20
          have hv0 := ownNil (σ := s20)
          refine W.loop (fun nn tt ss => ∃ (k : Nat) (v : Value), nn = n - k ∧ k ≤ n ∧ Own w0 ss 85 4 v (k) (((ptTo w h m n size speed (k)).map pt).flatten) ∧ Ext s20 ss ∧ (∀ b, v.ownBlock = some b → s20 b = none) ∧ FrOk tt [(1, (.int .i64 (n : Int))), (2, (.int .i64 m)), (3, (.float .f32 size)), (4, (.float .f32 speed)), (5, (.pointer (some ⟨b1, 0, none⟩))), (12, v), (38, (.int .i64 (n : Int))), (39, (.int .i64 (k : Int)))]) _ ⟨0, (.slice none 0 0), rfl, by omega, ho0, hx0, hv0, ⟨rfl, rfl, rfl, rfl, rfl, rfl, rfl, rfl, trivial⟩⟩ ?_
          rintro _ tz27 sz27 ⟨k, vz27, rfl, hik, hoz27, hxz27, hvz27, fz27⟩
          replace fz27 : (upd (upd (upd (upd (upd (upd (upd (upd tz27 1 (.int .i64 (n : Int))) 2 (.int .i64 m)) 3 (.float .f32 size)) 4 (.float .f32 speed)) 5 (.pointer (some ⟨b1, 0, none⟩))) 12 vz27) 38 (.int .i64 (n : Int))) 39 (.int .i64 (k : Int))) = tz27 := frame_ok fz27
          rw [← fz27]
          clear fz27
          refine W.seq ?_
          refine W.region ?_
          refine L.v (o_ilss (a := (k : Int)) (b := (n : Int)) rfl rfl rfl) ?_
          refine L.nil ?_
          refine W.seq ?_
          refine W.cond (b := decide (((k : Int) : Int) < (n : Int))) rfl (fun q28 => ?_) (fun q28 => ?_)
          ·
            have a29 : ((k : Int) : Int) < (n : Int) := of_decide_eq_true q28
            refine W.skip ?_
            refine W.seq ?_
            refine W.block ?_
            refine W.seq ?_
            refine W.region ?_
            refine L.v (o_move (v := (.int .i64 (k : Int))) rfl) ?_
            refine L.v (o_assign (v := (.int .i64 (k : Int))) rfl) ?_
            refine L.nil ?_
            refine W.seq ?_
            refine W.region ?_
            refine L.v (o_move (v := (.int .i64 (k : Int))) rfl) ?_
            refine L.v (o_cvIF (a := (k : Int)) (by rw [Try.underlying2]; rfl) Try.underlying24 rfl) ?_
            refine L.v (o_farith (k := .f32) (a := FloatKind.nearest .f32 (k : Int)) (b := 1056964608) rfl rfl rfl) ?_
            refine L.v (o_move (v := (.int .i64 (n : Int))) rfl) ?_
            refine L.v (o_cvIF (a := (n : Int)) (by rw [Try.underlying2]; rfl) Try.underlying24 rfl) ?_
            refine L.v (o_farith (k := .f32) (a := fop .add .f32 (FloatKind.nearest .f32 (k : Int)) 1056964608) (b := FloatKind.nearest .f32 (n : Int)) rfl rfl rfl) ?_
            refine L.v (o_assign (v := (.float .f32 (fop .quo .f32 (fop .add .f32 (FloatKind.nearest .f32 (k : Int)) 1056964608) (FloatKind.nearest .f32 (n : Int))))) rfl) ?_
            refine L.nil ?_
            refine W.seq ?_
            refine W.draw [true, true, true, true, true, true, true, true, true, true, true, true, true, true] (fun s => s = sz27) (by kernel_rfl) (by kernel_rfl) ?_
            refine DL.v (fun _ hD => by cases hD; exact o_fieldAddr (b := b1) (off := 0) (o := 0) (run_fieldAt (f := 0) (fld := { name := "Wide", type := 2, offset := 0, embedded := false, tag := "", pkgPath := "", byteOffset := 0 }) Try.underlying27 rfl Try.sizeOf2 (Nat.succ_ne_zero _)) rfl) ?_
            refine DL.v (fun _ hD => by cases hD; exact o_load (b := b1) (off := 0 + 0) (v := (.int .i64 (w : Int))) Try.isAgg2 rfl (Rd.of (hxz27 _ _ hb25) rfl) rfl) ?_
            refine DL.v (fun _ hD => by cases hD; exact o_cvIF (a := (w : Int)) (by rw [Try.underlying2]; rfl) Try.underlying24 rfl) ?_
            refine DL.v (fun _ hD => by cases hD; exact o_move (v := (.float .f32 (fop .quo .f32 (fop .add .f32 (FloatKind.nearest .f32 (k : Int)) 1056964608) (FloatKind.nearest .f32 (n : Int))))) rfl) ?_
            refine DL.v (fun _ hD => by cases hD; exact o_farith (k := .f32) (a := FloatKind.nearest .f32 (w : Int)) (b := fop .quo .f32 (fop .add .f32 (FloatKind.nearest .f32 (k : Int)) 1056964608) (FloatKind.nearest .f32 (n : Int))) rfl rfl rfl) ?_
            refine DL.v (fun _ hD => by cases hD; exact o_move (v := (.float .f32 size)) rfl) ?_
            refine DL.v (fun _ hD => by cases hD; exact o_move (v := (.int .i64 m)) rfl) ?_
            refine DL.v (fun _ hD => by cases hD; exact o_cvIF (a := m) (by rw [Try.underlying2]; rfl) Try.underlying24 rfl) ?_
            refine DL.v (fun _ hD => by cases hD; exact o_move (v := (.float .f32 (fop .quo .f32 (fop .add .f32 (FloatKind.nearest .f32 (k : Int)) 1056964608) (FloatKind.nearest .f32 (n : Int))))) rfl) ?_
            refine DL.v (fun _ hD => by cases hD; exact o_farith (k := .f32) (a := FloatKind.nearest .f32 m) (b := fop .quo .f32 (fop .add .f32 (FloatKind.nearest .f32 (k : Int)) 1056964608) (FloatKind.nearest .f32 (n : Int))) rfl rfl rfl) ?_
            refine DL.v (v := (.float .f32 (sineA (fop .mul .f32 (FloatKind.nearest .f32 m) (fop .quo .f32 (fop .add .f32 (FloatKind.nearest .f32 (k : Int)) 1056964608) (FloatKind.nearest .f32 (n : Int))))))) (fun _ hD => by cases hD; exact op_call [(.float .f32 (fop .mul .f32 (FloatKind.nearest .f32 m) (fop .quo .f32 (fop .add .f32 (FloatKind.nearest .f32 (k : Int)) 1056964608) (FloatKind.nearest .f32 (n : Int)))))] Try.call55 rfl (implSine (fop .mul .f32 (FloatKind.nearest .f32 m) (fop .quo .f32 (fop .add .f32 (FloatKind.nearest .f32 (k : Int)) 1056964608) (FloatKind.nearest .f32 (n : Int)))))) ?_
            refine DL.v (fun _ hD => by cases hD; exact o_farith (k := .f32) (a := size) (b := sineA (fop .mul .f32 (FloatKind.nearest .f32 m) (fop .quo .f32 (fop .add .f32 (FloatKind.nearest .f32 (k : Int)) 1056964608) (FloatKind.nearest .f32 (n : Int))))) rfl rfl rfl) ?_
            refine DL.v (fun _ hD => by cases hD; exact o_farith (k := .f32) (a := fop .mul .f32 (FloatKind.nearest .f32 (w : Int)) (fop .quo .f32 (fop .add .f32 (FloatKind.nearest .f32 (k : Int)) 1056964608) (FloatKind.nearest .f32 (n : Int)))) (b := fop .mul .f32 size (sineA (fop .mul .f32 (FloatKind.nearest .f32 m) (fop .quo .f32 (fop .add .f32 (FloatKind.nearest .f32 (k : Int)) 1056964608) (FloatKind.nearest .f32 (n : Int)))))) rfl rfl rfl) ?_
            refine DL.v (fun _ hD => by cases hD; exact o_assign (v := (.float .f32 (fop .add .f32 (fop .mul .f32 (FloatKind.nearest .f32 (w : Int)) (fop .quo .f32 (fop .add .f32 (FloatKind.nearest .f32 (k : Int)) 1056964608) (FloatKind.nearest .f32 (n : Int)))) (fop .mul .f32 size (sineA (fop .mul .f32 (FloatKind.nearest .f32 m) (fop .quo .f32 (fop .add .f32 (FloatKind.nearest .f32 (k : Int)) 1056964608) (FloatKind.nearest .f32 (n : Int))))))))) rfl) ?_
            refine DL.nil rfl ?_
            refine W.region ?_
            refine L.v (o_move (v := vz27) rfl) ?_
            refine L.v (o_move (v := (.float .f32 (fop .add .f32 (fop .mul .f32 (FloatKind.nearest .f32 (w : Int)) (fop .quo .f32 (fop .add .f32 (FloatKind.nearest .f32 (k : Int)) 1056964608) (FloatKind.nearest .f32 (n : Int)))) (fop .mul .f32 size (sineA (fop .mul .f32 (FloatKind.nearest .f32 m) (fop .quo .f32 (fop .add .f32 (FloatKind.nearest .f32 (k : Int)) 1056964608) (FloatKind.nearest .f32 (n : Int))))))))) rfl) ?_
            refine L.v (o_fieldAddr (b := b1) (off := 0) (o := 1) (run_fieldAt (f := 1) (fld := { name := "High", type := 2, offset := 1, embedded := false, tag := "", pkgPath := "", byteOffset := 8 }) Try.underlying27 rfl Try.sizeOf2 (Nat.succ_ne_zero _)) rfl) ?_
            refine L.v (o_load (b := b1) (off := 0 + 1) (v := (.int .i64 (h : Int))) Try.isAgg2 rfl (Rd.of (hxz27 _ _ hb25) rfl) rfl) ?_
            refine L.v (o_cvIF (a := (h : Int)) (by rw [Try.underlying2]; rfl) Try.underlying24 rfl) ?_
            refine L.v (o_farith (k := .f32) (a := FloatKind.nearest .f32 (h : Int)) (b := 1073741824) rfl rfl rfl) ?_
            refine L.v (o_complex (k := .f32) (a := fop .add .f32 (fop .mul .f32 (FloatKind.nearest .f32 (w : Int)) (fop .quo .f32 (fop .add .f32 (FloatKind.nearest .f32 (k : Int)) 1056964608) (FloatKind.nearest .f32 (n : Int)))) (fop .mul .f32 size (sineA (fop .mul .f32 (FloatKind.nearest .f32 m) (fop .quo .f32 (fop .add .f32 (FloatKind.nearest .f32 (k : Int)) 1056964608) (FloatKind.nearest .f32 (n : Int))))))) (b := fop .quo .f32 (FloatKind.nearest .f32 (h : Int)) 1073741824) rfl rfl) ?_
            refine L.v (o_move (v := (.float .f32 speed)) rfl) ?_
            refine L.v (o_complex (k := .f32) (a := speed) (b := 0) rfl rfl) ?_
            refine L.v (v := (.agg #[(.complex .f32 (fop .add .f32 (fop .mul .f32 (FloatKind.nearest .f32 (w : Int)) (fop .quo .f32 (fop .add .f32 (FloatKind.nearest .f32 (k : Int)) 1056964608) (FloatKind.nearest .f32 (n : Int)))) (fop .mul .f32 size (sineA (fop .mul .f32 (FloatKind.nearest .f32 m) (fop .quo .f32 (fop .add .f32 (FloatKind.nearest .f32 (k : Int)) 1056964608) (FloatKind.nearest .f32 (n : Int))))))) (fop .quo .f32 (FloatKind.nearest .f32 (h : Int)) 1073741824)), (.complex .f32 speed 0), (.float .f32 1065353216), (.float .f32 1065353216)])) (o_build_ccff (by intro a b a2 b2 c c2; kernel_rfl) rfl rfl rfl rfl) ?_
            refine L.cons (o_buildSlice1 (info := Try.t85) (z := (.agg #[.complex .f32 0 0, .complex .f32 0 0, .float .f32 0, .float .f32 0])) (k := 4) [(.complex .f32 (fop .add .f32 (fop .mul .f32 (FloatKind.nearest .f32 (w : Int)) (fop .quo .f32 (fop .add .f32 (FloatKind.nearest .f32 (k : Int)) 1056964608) (FloatKind.nearest .f32 (n : Int)))) (fop .mul .f32 size (sineA (fop .mul .f32 (FloatKind.nearest .f32 m) (fop .quo .f32 (fop .add .f32 (FloatKind.nearest .f32 (k : Int)) 1056964608) (FloatKind.nearest .f32 (n : Int))))))) (fop .quo .f32 (FloatKind.nearest .f32 (h : Int)) 1073741824)), (.complex .f32 speed 0), (.float .f32 1065353216), (.float .f32 1065353216)] Try.underlying44 Try.type85 rfl rfl rfl rfl (by decide) rfl) ?_
            rintro _ _ ⟨b30, hf31, hw32, rfl, rfl⟩
            have hx33 := Ext.trans hxz27 ((Ext.refl _).sg (x := (85, [(.complex .f32 (fop .add .f32 (fop .mul .f32 (FloatKind.nearest .f32 (w : Int)) (fop .quo .f32 (fop .add .f32 (FloatKind.nearest .f32 (k : Int)) 1056964608) (FloatKind.nearest .f32 (n : Int)))) (fop .mul .f32 size (sineA (fop .mul .f32 (FloatKind.nearest .f32 m) (fop .quo .f32 (fop .add .f32 (FloatKind.nearest .f32 (k : Int)) 1056964608) (FloatKind.nearest .f32 (n : Int))))))) (fop .quo .f32 (FloatKind.nearest .f32 (h : Int)) 1073741824)), (.complex .f32 speed 0), (.float .f32 1065353216), (.float .f32 1065353216)])) hf31)
            have ho34 := Own.ext hoz27 ((Ext.refl _).sg (x := (85, [(.complex .f32 (fop .add .f32 (fop .mul .f32 (FloatKind.nearest .f32 (w : Int)) (fop .quo .f32 (fop .add .f32 (FloatKind.nearest .f32 (k : Int)) 1056964608) (FloatKind.nearest .f32 (n : Int)))) (fop .mul .f32 size (sineA (fop .mul .f32 (FloatKind.nearest .f32 m) (fop .quo .f32 (fop .add .f32 (FloatKind.nearest .f32 (k : Int)) 1056964608) (FloatKind.nearest .f32 (n : Int))))))) (fop .quo .f32 (FloatKind.nearest .f32 (h : Int)) 1073741824)), (.complex .f32 speed 0), (.float .f32 1065353216), (.float .f32 1065353216)])) hf31)
            refine L.cons (o_append (info := Try.t85) (z := (.agg #[.complex .f32 0 0, .complex .f32 0 0, .float .f32 0, .float .f32 0])) (size := 4) (bytes := 24) (v := vz27) (n := k) (m := 1) (c := 1) (b := b30) (off := 0) (xs := ((ptTo w h m n size speed (k)).map pt).flatten) (news := [(.complex .f32 (fop .add .f32 (fop .mul .f32 (FloatKind.nearest .f32 (w : Int)) (fop .quo .f32 (fop .add .f32 (FloatKind.nearest .f32 (k : Int)) 1056964608) (FloatKind.nearest .f32 (n : Int)))) (fop .mul .f32 size (sineA (fop .mul .f32 (FloatKind.nearest .f32 m) (fop .quo .f32 (fop .add .f32 (FloatKind.nearest .f32 (k : Int)) 1056964608) (FloatKind.nearest .f32 (n : Int))))))) (fop .quo .f32 (FloatKind.nearest .f32 (h : Int)) 1073741824)), (.complex .f32 speed 0), (.float .f32 1065353216), (.float .f32 1065353216)]) Try.underlying44 Try.type85 rfl rfl rfl rfl rfl ho34 rfl (by decide) rfl (Rds.of (sg_eq _ _ _) (by intro j v hj; simpa using hj)) (by simp [Value.oneCell']) (by unfold maxLen; omega) (by omega)) ?_
            rintro v35 s36 ⟨ho37, gr38⟩
            have hx39 := Grew.ext gr38 hx33 hvz27
            have hv40 := Grew.fresh gr38 hx33 hvz27
            refine L.v (o_assign (v := v35) rfl) ?_
            refine L.nil ?_
            refine W.region ?_
            refine L.v (o_iadd (a := (k : Int)) (b := 1) (c := ((k + 1 : Nat) : Int)) rfl rfl (by rw [IntWalk.i64_in _ (by omega)]; try omega)) ?_
            refine L.v (o_move (v := (.int .i64 (((k + 1 : Nat) : Int)))) rfl) ?_
            refine L.nil ?_
            exact ⟨_, (by omega), k + 1, v35, rfl, by omega, (by rw [ptTo_succ, List.map_append, List.flatten_append]; exact ho37), hx39, hv40, ⟨rfl, rfl, rfl, rfl, rfl, rfl, rfl, rfl, trivial⟩⟩
          ·
            have a41 : ¬ (((k : Int) : Int) < (n : Int)) := of_decide_eq_false q28
            refine W.exit ?_
            refine W.seq ?_
            refine W.region ?_
            refine L.v (o_move (v := vz27) rfl) ?_
            refine L.v (o_assign (v := vz27) rfl) ?_
            refine L.v (o_assign (v := (.bool true)) rfl) ?_
            refine L.nil ?_
            refine W.ret ?_
            obtain rfl : n = k := by omega
            have hwb : ptB (w : Int) (h : Int) (n : Int) m size speed = true := by unfold ptB; cases hfs : finB size <;> cases hft : finB speed <;> by_cases g1 : (4 ≤ (w : Int) ∧ (w : Int) ≤ 16) ∧ 4 ≤ (h : Int) ∧ (h : Int) ≤ 16 <;> by_cases g2 : 1 ≤ (n : Int) ∧ (n : Int) ≤ 64 <;> by_cases g3 : 0 ≤ m ∧ m ≤ (w : Int) <;> simp_all <;> omega
            obtain ⟨p', c', hpc, hfs⟩ := Fsl.of_own (rows := (ptTo w h m n size speed n).map pt) (n := n) hoz27 (by rw [List.length_map, ptTo_len]) (pt_all _) hxz27 hvz27
            subst hpc
            exact RetK.two _ (.slice p' n c') (.bool true) rfl rfl rfl rfl rfl (Ext.refl _) ⟨p', c', by rw [ptF_yes hwb, hwb, ptTo_len], by rw [ptF_yes hwb]; exact Fsl.weaken hfs ehx21⟩

theorem lawPts {w0 : World} {σ : Sg} (gx gy c : Int) (bc : -9223372036854775808 ≤ c ∧ c ≤ 9223372036854775807) (m : Int) (bm : -9223372036854775808 ≤ m ∧ m ≤ 9223372036854775807) (size speed : Nat) :
    Fn Try.prog w0 6 [(.agg #[(.int .i64 gx), (.int .i64 gy)]), (.int .i64 c), (.int .i64 m), (.float .f32 size), (.float .f32 speed)] σ (fun u _ => u = .bool true) := by
  refine Fn.of_W 86 Try.func6 rfl Try.ntmps6 rfl ?_
  refine W.seq ?_
  refine W.region ?_
  refine L.cons (o_box (v := (.agg #[(.int .i64 gx), (.int .i64 gy)])) rfl rfl [(.int .i64 gx), (.int .i64 gy)] rfl) ?_
  rintro _ _ ⟨b1, hf2, hw3, rfl, rfl⟩
  have hb6 : (sg σ b1 (23, [(.int .i64 gx), (.int .i64 gy)])) b1 = some (23, [(.int .i64 gx), (.int .i64 gy)]) := sg_eq _ _ _
  have hx5 : Ext σ (sg σ b1 (23, [(.int .i64 gx), (.int .i64 gy)])) := (Ext.refl _).sg hf2
  have ehx5 := Ext.trans (Ext.refl _) hx5
  generalize hgs4 : sg σ b1 (23, [(.int .i64 gx), (.int .i64 gy)]) = s4 at *
  clear hgs4
  refine L.v (o_assign (v := (.bool false)) rfl) ?_
  refine L.nil ?_
  refine W.seq ?_
  refine W.region ?_
  refine L.v (o_loads (b := b1) (off := 0) (vs := [(.int .i64 gx), (.int .i64 gy)]) Try.isAgg23 Try.sizeOf23 rfl rfl (Rds.of hb6 (by intro j v hj; simpa using hj))) ?_
  refine L.v (v := (.agg #[(.int .i64 gx), (.int .i64 gy)])) (op_call [(.agg #[(.int .i64 gx), (.int .i64 gy)])] Try.call12 rfl (toGrid_c gx gy)) ?_
  refine L.v (o_move (v := (.int .i64 c)) rfl) ?_
  refine L.v (o_move (v := (.int .i64 m)) rfl) ?_
  refine L.v (o_move (v := (.float .f32 size)) rfl) ?_
  refine L.v (o_move (v := (.float .f32 speed)) rfl) ?_
  refine L.cons (op_call [(.agg #[(.int .i64 gx), (.int .i64 gy)]), (.int .i64 c), (.int .i64 m), (.float .f32 size), (.float .f32 speed)] Try.call25 rfl (specPts gx gy c m size speed)) ?_
  rintro _ s9 ⟨p7, c8, rfl, fs10⟩
  have ne11 := Fsl.ne fs10 hb6
  have hb12 := fs10.ext _ _ hb6
  have ex13 := Ext.trans ehx5 fs10.ext
  have mu14 := Fsl.mut fs10 (((ptF gx gy c m size speed).length) * 4) (by simp)
  refine L.v (o_move (v := (.tuple #[(.slice p7 ((ptF gx gy c m size speed).length) c8), (.bool (ptB gx gy c m size speed))])) rfl) ?_
  refine L.v (o_extract (vs := #[(.slice p7 ((ptF gx gy c m size speed).length) c8), (.bool (ptB gx gy c m size speed))]) (v := (.slice p7 ((ptF gx gy c m size speed).length) c8)) rfl rfl rfl) ?_
  refine L.v (o_extract (vs := #[(.slice p7 ((ptF gx gy c m size speed).length) c8), (.bool (ptB gx gy c m size speed))]) (v := (.bool (ptB gx gy c m size speed))) rfl rfl rfl) ?_
  refine L.v (o_assign (v := (.slice p7 ((ptF gx gy c m size speed).length) c8)) rfl) ?_
  refine L.v (o_assign (v := (.bool (ptB gx gy c m size speed))) rfl) ?_
  refine L.nil ?_
  refine W.seq ?_
  refine W.region ?_
  refine L.v (o_loads (b := b1) (off := 0) (vs := [(.int .i64 gx), (.int .i64 gy)]) Try.isAgg23 Try.sizeOf23 rfl rfl (Rds.of hb12 (by intro j v hj; simpa using hj))) ?_
  refine L.v (v := (.agg #[(.int .i64 gx), (.int .i64 gy)])) (op_call [(.agg #[(.int .i64 gx), (.int .i64 gy)])] Try.call12 rfl (toGrid_c gx gy)) ?_
  refine L.v (o_move (v := (.int .i64 c)) rfl) ?_
  refine L.v (o_move (v := (.int .i64 m)) rfl) ?_
  refine L.v (o_move (v := (.float .f32 size)) rfl) ?_
  refine L.v (o_move (v := (.float .f32 speed)) rfl) ?_
  refine L.cons (op_call [(.agg #[(.int .i64 gx), (.int .i64 gy)]), (.int .i64 c), (.int .i64 m), (.float .f32 size), (.float .f32 speed)] Try.call26 rfl (implPts gx gy c m size speed)) ?_
  rintro _ s17 ⟨p15, c16, rfl, fs18⟩
  have ne19 := Fsl.ne fs18 hb12
  have ap20 : Apart ((ptF gx gy c m size speed).length) ((ptF gx gy c m size speed).length) p15 p7 := by simpa using Fsl.apart fs18 (Fsl.reads fs10) (pt_ne _)
  have hb21 := fs18.ext _ _ hb12
  have hs22 := Sl.ext (Fsl.reads fs10) fs18.ext
  have mu23 := Mut.ext mu14 fs18.ext
  have ex24 := Ext.trans ex13 fs18.ext
  have mu25 := Fsl.mut fs18 (((ptF gx gy c m size speed).length) * 4) (by simp)
  refine L.v (o_move (v := (.tuple #[(.slice p15 ((ptF gx gy c m size speed).length) c16), (.bool (ptB gx gy c m size speed))])) rfl) ?_
  refine L.v (o_extract (vs := #[(.slice p15 ((ptF gx gy c m size speed).length) c16), (.bool (ptB gx gy c m size speed))]) (v := (.slice p15 ((ptF gx gy c m size speed).length) c16)) rfl rfl rfl) ?_
  refine L.v (o_extract (vs := #[(.slice p15 ((ptF gx gy c m size speed).length) c16), (.bool (ptB gx gy c m size speed))]) (v := (.bool (ptB gx gy c m size speed))) rfl rfl rfl) ?_
  refine L.v (o_assign (v := (.slice p15 ((ptF gx gy c m size speed).length) c16)) rfl) ?_
  refine L.v (o_assign (v := (.bool (ptB gx gy c m size speed))) rfl) ?_
  refine L.nil ?_
  refine W.seq ?_
  refine W.seq ?_
  refine W.region ?_
  refine L.v (o_move (v := (.slice p15 ((ptF gx gy c m size speed).length) c16)) rfl) ?_
  refine L.v (o_move (v := (.slice p7 ((ptF gx gy c m size speed).length) c8)) rfl) ?_
  refine L.v (v := (.bool true)) (op_call [(.slice p15 ((ptF gx gy c m size speed).length) c16), (.slice p7 ((ptF gx gy c m size speed).length) c8)] Try.call27 rfl (eqpt p15 p7 c16 c8 (ptF gx gy c m size speed) (Fsl.reads fs18) hs22 (by first | omega | exact ptF_le _ _ _ _ _ _))) ?_
  refine L.v (o_not (b := true) (c := false) rfl rfl) ?_
  refine L.v (o_move (v := (.bool false)) rfl) ?_
  refine L.gv (j := 4) (d₁ := 43) (b := false) rfl rfl rfl rfl (o_move (v := (.bool (ptB gx gy c m size speed))) rfl) ?_
  refine L.gv (j := 4) (d₁ := 43) (b := false) rfl rfl rfl rfl (o_move (v := (.bool (ptB gx gy c m size speed))) rfl) ?_
  refine L.gv (j := 4) (d₁ := 43) (b := false) rfl rfl rfl rfl (o_bneq (a := ptB gx gy c m size speed) (b := ptB gx gy c m size speed) (c := false) Try.underlying4 rfl rfl (by simp)) ?_
  refine L.v (o_pickF (b := false) (v := (.bool false)) rfl rfl rfl) ?_
  refine L.nil ?_
  refine W.condF (b := false) rfl rfl ?_
  refine W.skip ?_
  refine W.seq ?_
  refine W.region ?_
  refine L.v (o_assign (v := (.int .i64 1)) rfl) ?_
  refine L.nil ?_
  refine W.seq ?_
  refine W.region ?_
  refine L.v (o_move (v := (.slice p15 ((ptF gx gy c m size speed).length) c16)) rfl) ?_
  refine L.v (o_move (v := (.int .i64 1)) rfl) ?_
  refine L.cons (op_call [(.slice p15 ((ptF gx gy c m size speed).length) c16), (.int .i64 1)] Try.call28 rfl (markpt p15 ((ptF gx gy c m size speed).length) c16 1 mu25 (by first | omega | exact ptF_le _ _ _ _ _ _) (by omega))) ?_
  rintro _ s26 ⟨rfl, mk27, sl28⟩
  have hb29 := Mkd.cells mk27 hb21 ne19
  have hs30 := Sl.mkd hs22 mk27 (by simpa using ap20)
  have mu31 := Mut.mkd mu23 mk27 ap20 (by first | (simp; done) | omega)
  refine L.v (o_assign (v := (.int .i64 (1 + 4 * (((ptF gx gy c m size speed).length : Nat) : Int)))) rfl) ?_
  refine L.nil ?_
  refine W.seq ?_
  refine W.region ?_
  refine L.v (o_assign (v := (.int .i64 1)) rfl) ?_
  refine L.nil ?_
  refine W.seq ?_
  refine W.region ?_
  refine L.v (o_move (v := (.slice p15 ((ptF gx gy c m size speed).length) c16)) rfl) ?_
  refine L.v (o_move (v := (.int .i64 1)) rfl) ?_
  refine L.v (v := (.int .i64 (1 + 4 * (((ptF gx gy c m size speed).length : Nat) : Int)))) (op_call [(.slice p15 ((ptF gx gy c m size speed).length) c16), (.int .i64 1)] Try.call29 rfl (heldpt p15 ((ptF gx gy c m size speed).length) c16 1 sl28 (by first | omega | exact ptF_le _ _ _ _ _ _) (by omega))) ?_
  refine L.v (o_assign (v := (.int .i64 (1 + 4 * (((ptF gx gy c m size speed).length : Nat) : Int)))) rfl) ?_
  refine L.nil ?_
  refine W.seq ?_
  refine W.seq ?_
  refine W.region ?_
  refine L.v (o_move (v := (.int .i64 (1 + 4 * (((ptF gx gy c m size speed).length : Nat) : Int)))) rfl) ?_
  refine L.v (o_ilss (a := 1 + 4 * (((ptF gx gy c m size speed).length : Nat) : Int)) (b := 0) rfl rfl rfl) ?_
  refine L.nil ?_
  refine W.condF (b := decide ((1 + 4 * (((ptF gx gy c m size speed).length : Nat) : Int) : Int) < 0)) rfl (decide_eq_false (by omega)) ?_
  refine W.skip ?_
  refine W.seq ?_
  refine W.seq ?_
  refine W.region ?_
  refine L.v (o_move (v := (.int .i64 (1 + 4 * (((ptF gx gy c m size speed).length : Nat) : Int)))) rfl) ?_
  refine L.v (o_move (v := (.int .i64 (1 + 4 * (((ptF gx gy c m size speed).length : Nat) : Int)))) rfl) ?_
  refine L.v (o_ineq (a := 1 + 4 * (((ptF gx gy c m size speed).length : Nat) : Int)) (b := 1 + 4 * (((ptF gx gy c m size speed).length : Nat) : Int)) (c := false) rfl rfl (by simp)) ?_
  refine L.nil ?_
  refine W.condF (b := false) rfl rfl ?_
  refine W.skip ?_
  refine W.seq ?_
  refine W.region ?_
  refine L.v (o_loads (b := b1) (off := 0) (vs := [(.int .i64 gx), (.int .i64 gy)]) Try.isAgg23 Try.sizeOf23 rfl rfl (Rds.of hb29 (by intro j v hj; simpa using hj))) ?_
  refine L.v (v := (.agg #[(.int .i64 gx), (.int .i64 gy)])) (op_call [(.agg #[(.int .i64 gx), (.int .i64 gy)])] Try.call12 rfl (toGrid_c gx gy)) ?_
  refine L.v (o_move (v := (.int .i64 c)) rfl) ?_
  refine L.v (o_move (v := (.int .i64 m)) rfl) ?_
  refine L.v (o_move (v := (.float .f32 size)) rfl) ?_
  refine L.v (o_move (v := (.float .f32 speed)) rfl) ?_
  refine L.cons (op_call [(.agg #[(.int .i64 gx), (.int .i64 gy)]), (.int .i64 c), (.int .i64 m), (.float .f32 size), (.float .f32 speed)] Try.call26 rfl (implPts gx gy c m size speed)) ?_
  rintro _ s34 ⟨p32, c33, rfl, fs35⟩
  have ne36 := Fsl.ne fs35 hb29
  have ap37 : Apart ((ptF gx gy c m size speed).length) ((ptF gx gy c m size speed).length) p32 p7 := by simpa using Fsl.apart fs35 hs30 (pt_ne _)
  have ap38 : Apart ((ptF gx gy c m size speed).length) ((ptF gx gy c m size speed).length) p32 p15 := by simpa using Fsl.apart fs35 sl28 (pt_ne _)
  have hb39 := fs35.ext _ _ hb29
  have hs40 := Sl.ext hs30 fs35.ext
  have mu41 := Mut.ext mu31 fs35.ext
  have hs42 := Sl.ext sl28 fs35.ext
  have mu43 := Fsl.mut fs35 (((ptF gx gy c m size speed).length) * 4) (by simp)
  refine L.v (o_move (v := (.tuple #[(.slice p32 ((ptF gx gy c m size speed).length) c33), (.bool (ptB gx gy c m size speed))])) rfl) ?_
  refine L.v (o_extract (vs := #[(.slice p32 ((ptF gx gy c m size speed).length) c33), (.bool (ptB gx gy c m size speed))]) (v := (.slice p32 ((ptF gx gy c m size speed).length) c33)) rfl rfl rfl) ?_
  refine L.v (o_extract (vs := #[(.slice p32 ((ptF gx gy c m size speed).length) c33), (.bool (ptB gx gy c m size speed))]) (v := (.bool (ptB gx gy c m size speed))) rfl rfl rfl) ?_
  refine L.v (o_assign (v := (.slice p32 ((ptF gx gy c m size speed).length) c33)) rfl) ?_
  refine L.v (o_assign (v := (.bool (ptB gx gy c m size speed))) rfl) ?_
  refine L.nil ?_
  refine W.seq ?_
  refine W.seq ?_
  refine W.region ?_
  refine L.v (o_move (v := (.slice p32 ((ptF gx gy c m size speed).length) c33)) rfl) ?_
  refine L.v (o_move (v := (.slice p7 ((ptF gx gy c m size speed).length) c8)) rfl) ?_
  refine L.v (v := (.bool true)) (op_call [(.slice p32 ((ptF gx gy c m size speed).length) c33), (.slice p7 ((ptF gx gy c m size speed).length) c8)] Try.call27 rfl (eqpt p32 p7 c33 c8 (ptF gx gy c m size speed) (Fsl.reads fs35) hs40 (by first | omega | exact ptF_le _ _ _ _ _ _))) ?_
  refine L.v (o_not (b := true) (c := false) rfl rfl) ?_
  refine L.v (o_move (v := (.bool false)) rfl) ?_
  refine L.gv (j := 4) (d₁ := 73) (b := false) rfl rfl rfl rfl (o_move (v := (.bool (ptB gx gy c m size speed))) rfl) ?_
  refine L.gv (j := 4) (d₁ := 73) (b := false) rfl rfl rfl rfl (o_move (v := (.bool (ptB gx gy c m size speed))) rfl) ?_
  refine L.gv (j := 4) (d₁ := 73) (b := false) rfl rfl rfl rfl (o_bneq (a := ptB gx gy c m size speed) (b := ptB gx gy c m size speed) (c := false) Try.underlying4 rfl rfl (by simp)) ?_
  refine L.v (o_pickF (b := false) (v := (.bool false)) rfl rfl rfl) ?_
  refine L.nil ?_
  refine W.condF (b := false) rfl rfl ?_
  refine W.skip ?_
  refine W.seq ?_
  refine W.region ?_
  refine L.v (o_assign (v := (.int .i64 1)) rfl) ?_
  refine L.nil ?_
  refine W.seq ?_
  refine W.region ?_
  refine L.v (o_move (v := (.slice p15 ((ptF gx gy c m size speed).length) c16)) rfl) ?_
  refine L.v (o_move (v := (.int .i64 1)) rfl) ?_
  refine L.v (v := (.int .i64 (1 + 4 * (((ptF gx gy c m size speed).length : Nat) : Int)))) (op_call [(.slice p15 ((ptF gx gy c m size speed).length) c16), (.int .i64 1)] Try.call29 rfl (heldpt p15 ((ptF gx gy c m size speed).length) c16 1 hs42 (by first | omega | exact ptF_le _ _ _ _ _ _) (by omega))) ?_
  refine L.v (o_assign (v := (.int .i64 (1 + 4 * (((ptF gx gy c m size speed).length : Nat) : Int)))) rfl) ?_
  refine L.nil ?_
  refine W.seq ?_
  refine W.seq ?_
  refine W.region ?_
  refine L.v (o_move (v := (.int .i64 (1 + 4 * (((ptF gx gy c m size speed).length : Nat) : Int)))) rfl) ?_
  refine L.v (o_ilss (a := 1 + 4 * (((ptF gx gy c m size speed).length : Nat) : Int)) (b := 0) rfl rfl rfl) ?_
  refine L.nil ?_
  refine W.condF (b := decide ((1 + 4 * (((ptF gx gy c m size speed).length : Nat) : Int) : Int) < 0)) rfl (decide_eq_false (by omega)) ?_
  refine W.skip ?_
  refine W.seq ?_
  refine W.seq ?_
  refine W.region ?_
  refine L.v (o_move (v := (.int .i64 (1 + 4 * (((ptF gx gy c m size speed).length : Nat) : Int)))) rfl) ?_
  refine L.v (o_move (v := (.int .i64 (1 + 4 * (((ptF gx gy c m size speed).length : Nat) : Int)))) rfl) ?_
  refine L.v (o_ineq (a := 1 + 4 * (((ptF gx gy c m size speed).length : Nat) : Int)) (b := 1 + 4 * (((ptF gx gy c m size speed).length : Nat) : Int)) (c := false) rfl rfl (by simp)) ?_
  refine L.nil ?_
  refine W.condF (b := false) rfl rfl ?_
  refine W.skip ?_
  refine W.seq ?_
  refine W.region ?_
  refine L.v (o_assign (v := (.bool true)) rfl) ?_
  refine L.nil ?_
  refine W.ret ?_
  exact RetK.one _ (.bool true) rfl rfl (Ext.refl _) rfl

end Go.Proofs.Ytnonlibekcacgaa.En
