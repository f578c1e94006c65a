/- The laws' own helpers over lists of numbers; DetOf and TraceOf, in the program and in the reference, and their laws: what each call gives, for every list that can be read. -/
import Derived.Test.YtakeanehgfbbaaaEngI
import Derived.Test.YtakeanehgfbbaaaRows
namespace Go.Proofs.Ytakeanehgfbbaaa.En
open Go
set_option linter.unusedVariables false
def detF (xs : List Nat) : Nat := if xs.length = 4 then fop .sub .f32 (fop .mul .f32 (xs.getD 0 0) (xs.getD 3 0)) (fop .mul .f32 (xs.getD 1 0) (xs.getD 2 0)) else 0
def traceF (xs : List Nat) : Nat := if xs.length = 4 then fop .add .f32 (xs.getD 0 0) (xs.getD 3 0) else 0
theorem sameFloat_c {w0 : World} {σ : Sg} (a : Nat) :
    FnV Try.prog w0 14 [(.float .f64 a), (.float .f64 a)] σ (.bool true) := by
  unfold FnV
  refine Fn.of_W 37 Try.func14 rfl Try.ntmps14 rfl ?_
  refine W.seq ?_
  refine W.region ?_
  refine L.v (o_assign (v := (.bool false)) rfl) ?_
  refine L.nil ?_
  refine W.seq ?_
  refine W.seq ?_
  refine W.region ?_
  refine L.v (o_move (v := (.float .f64 a)) rfl) ?_
  refine L.v (o_move (v := (.float .f64 a)) rfl) ?_
  refine L.v (o_fcmp (k := .f64) (a := a) (b := a) rfl rfl rfl rfl) ?_
  refine L.v (o_move (v := (.bool (fcmp .neq .f64 a a))) rfl) ?_
  rcases Bool.eq_false_or_eq_true (fcmp .neq .f64 a a) with q1 | q1
  ·
    refine L.gF (j := 3) (d₁ := 8) (b := fcmp .neq .f64 a a) rfl rfl rfl q1 ?_
    refine L.gF (j := 3) (d₁ := 8) (b := fcmp .neq .f64 a a) rfl rfl rfl q1 ?_
    refine L.gF (j := 3) (d₁ := 8) (b := fcmp .neq .f64 a a) rfl rfl rfl q1 ?_
    refine L.v (o_pickT (b := fcmp .neq .f64 a a) (v := (.bool true)) rfl q1 rfl) ?_
    refine L.nil ?_
    refine W.condT (b := true) rfl rfl ?_
    refine W.seq ?_
    refine W.region ?_
    refine L.v (o_move (v := (.float .f64 a)) rfl) ?_
    refine L.v (o_move (v := (.float .f64 a)) rfl) ?_
    refine L.v (o_fcmp (k := .f64) (a := a) (b := a) rfl rfl rfl rfl) ?_
    refine L.v (o_move (v := (.bool (fcmp .neq .f64 a a))) rfl) ?_
    refine L.gv (j := 3) (d₁ := 16) (b := fcmp .neq .f64 a a) rfl rfl rfl q1 (o_move (v := (.float .f64 a)) rfl) ?_
    refine L.gv (j := 3) (d₁ := 16) (b := fcmp .neq .f64 a a) rfl rfl rfl q1 (o_move (v := (.float .f64 a)) rfl) ?_
    refine L.gv (j := 3) (d₁ := 16) (b := fcmp .neq .f64 a a) rfl rfl rfl q1 (o_fcmp (k := .f64) (a := a) (b := a) rfl rfl rfl rfl) ?_
    refine L.v (o_pickT (b := fcmp .neq .f64 a a) (v := (.bool (fcmp .neq .f64 a a))) rfl q1 rfl) ?_
    refine L.v (o_assign (v := (.bool (fcmp .neq .f64 a a))) rfl) ?_
    refine L.nil ?_
    refine W.ret ?_
    exact RetK.one σ (.bool (fcmp .neq .f64 a a)) rfl rfl (Ext.refl _) ⟨congrArg Value.bool q1, rfl⟩
  ·
    refine L.gv (j := 3) (d₁ := 8) (b := fcmp .neq .f64 a a) rfl rfl rfl q1 (o_move (v := (.float .f64 a)) rfl) ?_
    refine L.gv (j := 3) (d₁ := 8) (b := fcmp .neq .f64 a a) rfl rfl rfl q1 (o_move (v := (.float .f64 a)) rfl) ?_
    refine L.gv (j := 3) (d₁ := 8) (b := fcmp .neq .f64 a a) rfl rfl rfl q1 (o_fcmp (k := .f64) (a := a) (b := a) rfl rfl rfl rfl) ?_
    refine L.v (o_pickF (b := fcmp .neq .f64 a a) (v := (.bool (fcmp .neq .f64 a a))) rfl q1 rfl) ?_
    refine L.nil ?_
    refine W.condF (b := fcmp .neq .f64 a a) rfl q1 ?_
    refine W.skip ?_
    refine W.seq ?_
    refine W.seq ?_
    refine W.region ?_
    refine L.v (o_move (v := (.float .f64 a)) rfl) ?_
    refine L.v (o_fcmp (k := .f64) (a := a) (b := 0) rfl rfl rfl rfl) ?_
    refine L.v (o_move (v := (.bool (fcmp .eql .f64 a 0))) rfl) ?_
    rcases Bool.eq_false_or_eq_true (fcmp .eql .f64 a 0) with q2 | q2
    ·
      refine L.gv (j := 2) (d₁ := 23) (b := fcmp .eql .f64 a 0) rfl rfl rfl q2 (o_move (v := (.float .f64 a)) rfl) ?_
      refine L.gv (j := 2) (d₁ := 23) (b := fcmp .eql .f64 a 0) rfl rfl rfl q2 (o_fcmp (k := .f64) (a := a) (b := 0) rfl rfl rfl rfl) ?_
      refine L.v (o_pickT (b := fcmp .eql .f64 a 0) (v := (.bool (fcmp .eql .f64 a 0))) rfl q2 rfl) ?_
      refine L.nil ?_
      refine W.condT (b := fcmp .eql .f64 a 0) rfl q2 ?_
      refine W.seq ?_
      refine W.region ?_
      refine L.v (o_move (v := (.float .f64 a)) rfl) ?_
      refine L.v (o_farith (k := .f64) (a := 4607182418800017408) (b := a) rfl rfl rfl) ?_
      refine L.v (o_fcmp (k := .f64) (a := fop .quo .f64 4607182418800017408 a) (b := 0) rfl rfl rfl rfl) ?_
      refine L.v (o_move (v := (.float .f64 a)) rfl) ?_
      refine L.v (o_farith (k := .f64) (a := 4607182418800017408) (b := a) rfl rfl rfl) ?_
      refine L.v (o_fcmp (k := .f64) (a := fop .quo .f64 4607182418800017408 a) (b := 0) rfl rfl rfl rfl) ?_
      refine L.v (o_beql (a := fcmp .gtr .f64 (fop .quo .f64 4607182418800017408 a) 0) (b := fcmp .gtr .f64 (fop .quo .f64 4607182418800017408 a) 0) (c := true) Try.underlying4 rfl rfl (by simp)) ?_
      refine L.v (o_assign (v := (.bool true)) rfl) ?_
      refine L.nil ?_
      refine W.ret ?_
      exact RetK.one σ (.bool true) rfl rfl (Ext.refl _) ⟨congrArg Value.bool rfl, rfl⟩
    ·
      refine L.gF (j := 2) (d₁ := 23) (b := fcmp .eql .f64 a 0) rfl rfl rfl q2 ?_
      refine L.gF (j := 2) (d₁ := 23) (b := fcmp .eql .f64 a 0) rfl rfl rfl q2 ?_
      refine L.v (o_pickF (b := fcmp .eql .f64 a 0) (v := (.bool false)) rfl q2 rfl) ?_
      refine L.nil ?_
      refine W.condF (b := false) rfl rfl ?_
      refine W.skip ?_
      refine W.seq ?_
      refine W.region ?_
      refine L.v (o_move (v := (.float .f64 a)) rfl) ?_
      refine L.v (o_move (v := (.float .f64 a)) rfl) ?_
      refine L.v (o_fcmp (k := .f64) (a := a) (b := a) rfl rfl rfl rfl) ?_
      refine L.v (o_assign (v := (.bool (fcmp .eql .f64 a a))) rfl) ?_
      refine L.nil ?_
      refine W.ret ?_
      exact RetK.one σ (.bool (fcmp .eql .f64 a a)) rfl rfl (Ext.refl _) ⟨by first | rfl | (simp; done) | (congr 1; apply fcmp_eql_of; assumption) | (congr 1; simp), rfl⟩

theorem toF32S {w0 : World} {σ : Sg} (p : Option Addr) (c : Nat) (xs : List Nat) (hs : Sl σ 1 p (xs.map fl)) (hn : xs.length ≤ 1048576) :
    Fn Try.prog w0 12 [(.slice p xs.length c)] σ (RetFS w0 σ 1 (xs.map fl) xs.length id) := by
  refine Fn.of_W 22 Try.func12 rfl Try.ntmps12 rfl ?_
  refine W.seq ?_
  refine W.region ?_
  refine L.v (o_assign (v := (.slice none 0 0)) rfl) ?_
  refine L.nil ?_
  refine W.seq ?_
  refine W.region ?_
  refine L.v (o_move (v := (.slice p xs.length c)) rfl) ?_
  refine L.v (o_len (p := p) (n := xs.length) (c := c) Try.underlying22 rfl) ?_
  refine L.cons (o_makeSlice (ik := .i64) (info := Try.t23) (z := .float .f32 0) xs.length Try.underlying22 Try.type23 rfl rfl (by show 4 * _ ≤ _; omega) (by omega)) ?_
  rintro _ _ ⟨b, hf, hw, rfl, rfl⟩
  rw [show (madeCells ((Value.float .f32 0).cells) (xs.length * Try.t23.size)).toList = List.replicate xs.length (.float .f32 0) by show (madeCells #[_] (xs.length * 1)).toList = _; rw [Nat.mul_one, made_one]]
  refine L.v (o_assign (v := (.slice (some ⟨b, 0, none⟩) xs.length xs.length)) rfl) ?_
  refine L.nil ?_
  refine W.seq ?_
  refine W.seq ?_
  refine W.region ?_
  refine L.v (o_assign (v := (.int .i64 0)) rfl) ?_
  refine L.nil ?_
  refine W.block ?_
  refine W.loop (fun n t s => ∃ (i : Nat), n = xs.length - i ∧ (i ≤ xs.length) ∧ FrOk t [(0, (.slice p xs.length c)), (3, (.slice (some ⟨b, 0, none⟩) xs.length xs.length)), (4, (.int .i64 ↑i))] ∧ sg σ b (23, (xs.take i).map (Value.float .f32) ++ List.replicate (xs.length - i) (.float .f32 0)) = s) _ ⟨0, rfl, (by omega), ⟨rfl, rfl, rfl, trivial⟩, (by simp)⟩ ?_
  rintro _ t1 _ ⟨i, rfl, hi, f2, rfl⟩
  rw [← frame_ok f2]
  show W _ _ _ _ _ (upd (upd (upd t1 0 (.slice p xs.length c)) 3 (.slice (some ⟨b, 0, none⟩) xs.length xs.length)) 4 (.int .i64 ↑i)) _
  refine W.seq ?_
  refine W.seq ?_
  refine W.region ?_
  refine L.v (o_move (v := (.int .i64 ↑i)) rfl) ?_
  refine L.v (o_move (v := (.slice p xs.length c)) rfl) ?_
  refine L.v (o_len (p := p) (n := xs.length) (c := c) Try.underlying22 rfl) ?_
  refine L.v (o_ilss (a := ↑i) (b := ↑xs.length) rfl rfl rfl) ?_
  refine L.nil ?_
  refine W.cond (b := decide ((↑i : Int) < ↑xs.length)) rfl (fun q3 => ?_) (fun q3 => ?_)
  ·
    have a4 : (↑i : Int) < ↑xs.length := of_decide_eq_true q3
    refine W.skip ?_
    refine W.seq ?_
    refine W.block ?_
    have hs' : Sl (sg σ b (23, (xs.take i).map (Value.float .f32) ++ List.replicate (xs.length - i) (.float .f32 0))) 1 p (xs.map fl) := hs.ext ((Ext.refl _).sg hf)
    obtain ⟨b5, o6, rfl, _⟩ := hs'.elem i (by omega) 0
    refine W.region ?_
    refine L.v (o_move (v := (.slice (some ⟨b, 0, none⟩) xs.length xs.length)) rfl) ?_
    refine L.v (o_move (v := (.int .i64 ↑i)) rfl) ?_
    refine L.v (o_move (v := (.slice (some ⟨b5, o6, none⟩) xs.length c)) rfl) ?_
    refine L.v (o_move (v := (.int .i64 ↑i)) rfl) ?_
    refine L.v (o_indexAddr (b := b5) (off := o6) (n := xs.length) (c := c) i Try.underlying22 Try.sizeOf23 rfl rfl (by omega)) ?_
    refine L.v (o_load (b := b5) (off := o6 + i * 1) (v := (.float .f32 (xs.getD i 0))) Try.isAgg23 rfl (Rds.fst (hs'.at i (by omega) 0)) rfl) ?_
    refine L.v (o_indexAddr (b := b) (off := 0) (n := xs.length) (c := xs.length) i Try.underlying22 Try.sizeOf23 rfl rfl (by omega)) ?_
    refine L.cons0 (o_store (b := b) (off := 0 + i * 1) (v := (.float .f32 (xs.getD i 0))) Try.sizeOf23 rfl rfl rfl (sg_eq _ _ _) (by simp; omega) hw) ?_
    rintro _ _ ⟨rfl, rfl⟩
    rw [sg_sg, show 0 + i * 1 = i by omega, fill_step (Value.float .f32) (.float .f32 0) xs i (by omega) 0]
    refine L.nil ?_
    refine W.region ?_
    refine L.v (o_move (v := (.int .i64 ↑i)) rfl) ?_
    refine L.v (o_iadd (a := ↑i) (b := 1) (c := ↑(i + 1)) rfl rfl (by rw [IntWalk.i64_in _ (by omega)]; try omega)) ?_
    refine L.v (o_assign (v := (.int .i64 (↑(i + 1)))) rfl) ?_
    refine L.nil ?_
    exact ⟨_, (by omega), i + 1, rfl, (by omega), ⟨rfl, rfl, rfl, trivial⟩, rfl⟩
  ·
    have a7 : ¬ ((↑i : Int) < ↑xs.length) := of_decide_eq_false q3
    refine W.exit ?_
    refine W.seq ?_
    refine W.region ?_
    refine L.v (o_move (v := (.slice (some ⟨b, 0, none⟩) xs.length xs.length)) rfl) ?_
    refine L.v (o_assign (v := (.slice (some ⟨b, 0, none⟩) xs.length xs.length)) rfl) ?_
    refine L.nil ?_
    refine W.ret ?_
    obtain rfl : i = xs.length := by omega
    rw [show (xs.take xs.length).map (Value.float .f32) ++ List.replicate (xs.length - xs.length) (.float .f32 0) = (xs.map fl).flatten by simp [flat_fl]]
    exact RetK.one _ (.slice (some ⟨b, 0, none⟩) xs.length xs.length) rfl rfl (Ext.refl _) ⟨_, xs.length, rfl, Fsl.of_newB hf hw (by simp [fl])⟩

theorem eqF32S {w0 : World} {σ : Sg} (p q : Option Addr) (c d : Nat) (xs : List Nat) (hs : Sl σ 1 p (xs.map fl)) (hq : Sl σ 1 q (xs.map fl)) (hn : xs.length ≤ 1048576) :
    FnV Try.prog w0 15 [(.slice p xs.length c), (.slice q xs.length d)] σ (.bool true) := by
  unfold FnV
  refine Fn.of_W 29 Try.func15 rfl Try.ntmps15 rfl ?_
  refine W.seq ?_
  refine W.region ?_
  refine L.v (o_assign (v := (.bool false)) rfl) ?_
  refine L.nil ?_
  refine W.seq ?_
  refine W.seq ?_
  refine W.region ?_
  refine L.v (o_move (v := (.slice p xs.length c)) rfl) ?_
  refine L.v (o_len (p := p) (n := xs.length) (c := c) Try.underlying22 rfl) ?_
  refine L.v (o_move (v := (.slice q xs.length d)) rfl) ?_
  refine L.v (o_len (p := q) (n := xs.length) (c := d) Try.underlying22 rfl) ?_
  refine L.v (o_ineq (a := ↑xs.length) (b := ↑xs.length) rfl rfl rfl) ?_
  refine L.nil ?_
  refine W.cond (b := !decide ((↑xs.length : Int) = ↑xs.length)) rfl (fun q1 => ?_) (fun q1 => ?_)
  ·
    have a2 : ¬ ((↑xs.length : Int) = ↑xs.length) := of_decide_eq_false (bn_t q1)
    refine W.seq ?_
    refine W.region ?_
    refine L.v (o_assign (v := (.bool false)) rfl) ?_
    refine L.nil ?_
    refine W.ret ?_
    exact RetK.one σ (.bool false) rfl rfl (Ext.refl _) ⟨by first | rfl | (exfalso; omega) | (exact absurd rfl (by assumption)), rfl⟩
  ·
    have a3 : (↑xs.length : Int) = ↑xs.length := of_decide_eq_true (bn_f q1)
    refine W.skip ?_
    refine W.seq ?_
    refine W.seq ?_
    refine W.region ?_
    refine L.v (o_assign (v := (.int .i64 0)) rfl) ?_
    refine L.nil ?_
    refine W.block ?_
    refine W.loop (fun n t s => ∃ (i : Nat), n = xs.length - i ∧ (i ≤ xs.length) ∧ FrOk t [(0, (.slice p xs.length c)), (1, (.slice q xs.length d)), (5, (.int .i64 ↑i))] ∧ σ = s) _ ⟨0, rfl, (by omega), ⟨rfl, rfl, rfl, trivial⟩, rfl⟩ ?_
    rintro _ t4 _ ⟨i, rfl, hi, f5, rfl⟩
    rw [← frame_ok f5]
    show W _ _ _ _ _ (upd (upd (upd t4 0 (.slice p xs.length c)) 1 (.slice q xs.length d)) 5 (.int .i64 ↑i)) _
    refine W.seq ?_
    refine W.seq ?_
    refine W.region ?_
    refine L.v (o_move (v := (.int .i64 ↑i)) rfl) ?_
    refine L.v (o_move (v := (.slice p xs.length c)) rfl) ?_
    refine L.v (o_len (p := p) (n := xs.length) (c := c) Try.underlying22 rfl) ?_
    refine L.v (o_ilss (a := ↑i) (b := ↑xs.length) rfl rfl rfl) ?_
    refine L.nil ?_
    refine W.cond (b := decide ((↑i : Int) < ↑xs.length)) rfl (fun q6 => ?_) (fun q6 => ?_)
    ·
      have a7 : (↑i : Int) < ↑xs.length := of_decide_eq_true q6
      refine W.skip ?_
      refine W.seq ?_
      refine W.block ?_
      refine W.seq ?_
      obtain ⟨b8, o9, rfl, _⟩ := hs.elem i (by omega) 0
      obtain ⟨b10, o11, rfl, _⟩ := hq.elem i (by omega) 0
      refine W.draw [true, true, true, true, true, true, true, true, true, true, true, true] (fun s => s = σ) (by kernel_rfl) (by kernel_rfl) ?_
      refine DL.v (fun _ hD => by cases hD; exact o_move (v := (.slice (some ⟨b8, o9, none⟩) xs.length c)) rfl) ?_
      refine DL.v (fun _ hD => by cases hD; exact o_move (v := (.int .i64 ↑i)) rfl) ?_
      refine DL.v (fun _ hD => by cases hD; exact o_indexAddr (b := b8) (off := o9) (n := xs.length) (c := c) i Try.underlying22 Try.sizeOf23 rfl rfl (by omega)) ?_
      refine DL.v (fun _ hD => by cases hD; exact o_load (b := b8) (off := o9 + i * 1) (v := (.float .f32 (xs.getD i 0))) Try.isAgg23 rfl (Rds.fst (hs.at i (by omega) 0)) rfl) ?_
      refine DL.v (fun _ hD => by cases hD; exact o_cvFF (s := .f32) (d := .f64) (a := xs.getD i 0) (by rw [Try.underlying23]; rfl) Try.underlying28 rfl (okw (xs.getD i 0))) ?_
      refine DL.v (fun _ hD => by cases hD; exact o_move (v := (.slice (some ⟨b10, o11, none⟩) xs.length d)) rfl) ?_
      refine DL.v (fun _ hD => by cases hD; exact o_move (v := (.int .i64 ↑i)) rfl) ?_
      refine DL.v (fun _ hD => by cases hD; exact o_indexAddr (b := b10) (off := o11) (n := xs.length) (c := d) i Try.underlying22 Try.sizeOf23 rfl rfl (by omega)) ?_
      refine DL.v (fun _ hD => by cases hD; exact o_load (b := b10) (off := o11 + i * 1) (v := (.float .f32 (xs.getD i 0))) Try.isAgg23 rfl (Rds.fst (hq.at i (by omega) 0)) rfl) ?_
      refine DL.v (fun _ hD => by cases hD; exact o_cvFF (s := .f32) (d := .f64) (a := xs.getD i 0) (by rw [Try.underlying23]; rfl) Try.underlying28 rfl (okw (xs.getD i 0))) ?_
      refine DL.v (v := (.bool true)) (fun _ hD => by cases hD; exact op_call [(.float .f64 (cvt .f32 .f64 (xs.getD i 0))), (.float .f64 (cvt .f32 .f64 (xs.getD i 0)))] Try.call14 rfl (sameFloat_c (cvt .f32 .f64 (xs.getD i 0)))) ?_
      refine DL.v (fun _ hD => by cases hD; exact o_not (b := true) (c := false) rfl rfl) ?_
      refine DL.nil rfl ?_
      refine W.condF (b := false) rfl rfl ?_
      refine W.skip ?_
      refine W.region ?_
      refine L.v (o_move (v := (.int .i64 ↑i)) rfl) ?_
      refine L.v (o_iadd (a := ↑i) (b := 1) (c := ↑(i + 1)) rfl rfl (by rw [IntWalk.i64_in _ (by omega)]; try omega)) ?_
      refine L.v (o_assign (v := (.int .i64 (↑(i + 1)))) rfl) ?_
      refine L.nil ?_
      exact ⟨_, (by omega), i + 1, rfl, (by omega), ⟨rfl, rfl, rfl, trivial⟩, rfl⟩
    ·
      have a12 : ¬ ((↑i : Int) < ↑xs.length) := of_decide_eq_false q6
      refine W.exit ?_
      refine W.seq ?_
      refine W.region ?_
      refine L.v (o_assign (v := (.bool true)) rfl) ?_
      refine L.nil ?_
      refine W.ret ?_
      exact RetK.one σ (.bool true) rfl rfl (Ext.refl _) ⟨by first | rfl | (exfalso; omega) | (exact absurd rfl (by assumption)), rfl⟩

theorem specDet {w0 : World} {σ : Sg} (p : Option Addr) (c : Nat) (xs : List Nat) (hs : Sl σ 1 p (xs.map fl)) :
    FnV Try.prog w0 11 [(.slice p xs.length c)] σ (.tuple #[.float .f32 (detF xs), .bool (decide (xs.length = 4))]) := by
  unfold FnV
  refine Fn.of_W 22 Try.func11 rfl Try.ntmps11 rfl ?_
  refine W.seq ?_
  refine W.region ?_
  refine L.v (o_assign (v := (.float .f32 0)) rfl) ?_
  refine L.v (o_assign (v := (.bool false)) rfl) ?_
  refine L.nil ?_
  refine W.seq ?_
  refine W.seq ?_
  refine W.region ?_
  refine L.v (o_move (v := (.slice p xs.length c)) rfl) ?_
  refine L.v (o_len (p := p) (n := xs.length) (c := c) Try.underlying22 rfl) ?_
  refine L.v (o_ineq (a := ↑xs.length) (b := 4) rfl rfl rfl) ?_
  refine L.nil ?_
  refine W.cond (b := !decide ((↑xs.length : Int) = 4)) rfl (fun q1 => ?_) (fun q1 => ?_)
  ·
    have a2 : ¬ ((↑xs.length : Int) = 4) := of_decide_eq_false (bn_t q1)
    refine W.seq ?_
    refine W.region ?_
    refine L.v (o_assign (v := (.float .f32 0)) rfl) ?_
    refine L.v (o_assign (v := (.bool false)) rfl) ?_
    refine L.nil ?_
    refine W.ret ?_
    exact RetK.two σ (.float .f32 0) (.bool false) rfl rfl rfl rfl rfl (Ext.refl _) ⟨by unfold detF; first | (rw [if_pos (by omega), decide_eq_true (by omega)]) | (rw [if_neg (by omega), decide_eq_false (by omega)]), rfl⟩
  ·
    have a3 : (↑xs.length : Int) = 4 := of_decide_eq_true (bn_f q1)
    refine W.skip ?_
    refine W.seq ?_
    obtain ⟨b4, o5, rfl, _⟩ := hs.elem 0 (by omega) 0
    refine W.draw [true, true, true, true, true, true, true, true, true, true, true, true, true, true, true, true, true] (fun s => s = σ) (by kernel_rfl) (by kernel_rfl) ?_
    refine DL.v (fun _ hD => by cases hD; exact o_move (v := (.slice (some ⟨b4, o5, none⟩) xs.length c)) rfl) ?_
    refine DL.v (fun _ hD => by cases hD; exact o_indexAddr (b := b4) (off := o5) (n := xs.length) (c := c) 0 Try.underlying22 Try.sizeOf23 rfl rfl (by omega)) ?_
    refine DL.v (fun _ hD => by cases hD; exact o_load (b := b4) (off := o5 + 0 * 1) (v := (.float .f32 (xs.getD 0 0))) Try.isAgg23 rfl (Rds.fst (hs.at 0 (by omega) 0)) rfl) ?_
    refine DL.v (fun _ hD => by cases hD; exact o_move (v := (.slice (some ⟨b4, o5, none⟩) xs.length c)) rfl) ?_
    refine DL.v (fun _ hD => by cases hD; exact o_indexAddr (b := b4) (off := o5) (n := xs.length) (c := c) 3 Try.underlying22 Try.sizeOf23 rfl rfl (by omega)) ?_
    refine DL.v (fun _ hD => by cases hD; exact o_load (b := b4) (off := o5 + 3 * 1) (v := (.float .f32 (xs.getD 3 0))) Try.isAgg23 rfl (Rds.fst (hs.at 3 (by omega) 0)) rfl) ?_
    refine DL.v (fun _ hD => by cases hD; exact o_farith (k := .f32) (a := xs.getD 0 0) (b := xs.getD 3 0) rfl rfl rfl) ?_
    refine DL.v (fun _ hD => by cases hD; exact o_move (v := (.slice (some ⟨b4, o5, none⟩) xs.length c)) rfl) ?_
    refine DL.v (fun _ hD => by cases hD; exact o_indexAddr (b := b4) (off := o5) (n := xs.length) (c := c) 1 Try.underlying22 Try.sizeOf23 rfl rfl (by omega)) ?_
    refine DL.v (fun _ hD => by cases hD; exact o_load (b := b4) (off := o5 + 1 * 1) (v := (.float .f32 (xs.getD 1 0))) Try.isAgg23 rfl (Rds.fst (hs.at 1 (by omega) 0)) rfl) ?_
    refine DL.v (fun _ hD => by cases hD; exact o_move (v := (.slice (some ⟨b4, o5, none⟩) xs.length c)) rfl) ?_
    refine DL.v (fun _ hD => by cases hD; exact o_indexAddr (b := b4) (off := o5) (n := xs.length) (c := c) 2 Try.underlying22 Try.sizeOf23 rfl rfl (by omega)) ?_
    refine DL.v (fun _ hD => by cases hD; exact o_load (b := b4) (off := o5 + 2 * 1) (v := (.float .f32 (xs.getD 2 0))) Try.isAgg23 rfl (Rds.fst (hs.at 2 (by omega) 0)) rfl) ?_
    refine DL.v (fun _ hD => by cases hD; exact o_farith (k := .f32) (a := xs.getD 1 0) (b := xs.getD 2 0) rfl rfl rfl) ?_
    refine DL.v (fun _ hD => by cases hD; exact o_farith (k := .f32) (a := fop .mul .f32 (xs.getD 0 0) (xs.getD 3 0)) (b := fop .mul .f32 (xs.getD 1 0) (xs.getD 2 0)) rfl rfl rfl) ?_
    refine DL.v (fun _ hD => by cases hD; exact o_assign (v := (.float .f32 (fop .sub .f32 (fop .mul .f32 (xs.getD 0 0) (xs.getD 3 0)) (fop .mul .f32 (xs.getD 1 0) (xs.getD 2 0))))) rfl) ?_
    refine DL.v (fun _ hD => by cases hD; exact o_assign (v := (.bool true)) rfl) ?_
    refine DL.nil rfl ?_
    refine W.ret ?_
    exact RetK.two σ (.float .f32 (fop .sub .f32 (fop .mul .f32 (xs.getD 0 0) (xs.getD 3 0)) (fop .mul .f32 (xs.getD 1 0) (xs.getD 2 0)))) (.bool true) rfl rfl rfl rfl rfl (Ext.refl _) ⟨by unfold detF; first | (rw [if_pos (by omega), decide_eq_true (by omega)]) | (rw [if_neg (by omega), decide_eq_false (by omega)]), rfl⟩

theorem implDet {w0 : World} {σ : Sg} (p : Option Addr) (c : Nat) (xs : List Nat) (hs : Sl σ 1 p (xs.map fl)) :
    FnV Try.prog w0 13 [(.slice p xs.length c)] σ (.tuple #[.float .f32 (detF xs), .bool (decide (xs.length = 4))]) := by
  unfold FnV
  refine Fn.of_W 22 Try.func13 rfl Try.ntmps13 rfl ?_
  refine W.seq ?_
  refine W.region ?_
  refine L.v (o_assign (v := (.float .f32 0)) rfl) ?_
  refine L.v (o_assign (v := (.bool false)) rfl) ?_
  refine L.nil ?_
  refine W.seq ?_
  refine W.seq ?_
  refine W.region ?_
  refine L.v (o_move (v := (.slice p xs.length c)) rfl) ?_
  refine L.v (o_len (p := p) (n := xs.length) (c := c) Try.underlying22 rfl) ?_
  refine L.v (o_ineq (a := ↑xs.length) (b := 4) rfl rfl rfl) ?_
  refine L.nil ?_
  refine W.cond (b := !decide ((↑xs.length : Int) = 4)) rfl (fun q1 => ?_) (fun q1 => ?_)
  ·
    have a2 : ¬ ((↑xs.length : Int) = 4) := of_decide_eq_false (bn_t q1)
    refine W.seq ?_
    refine W.region ?_
    refine L.v (o_assign (v := (.float .f32 0)) rfl) ?_
    refine L.v (o_assign (v := (.bool false)) rfl) ?_
    refine L.nil ?_
    refine W.ret ?_
    exact RetK.two σ (.float .f32 0) (.bool false) rfl rfl rfl rfl rfl (Ext.refl _) ⟨by unfold detF; first | (rw [if_pos (by omega), decide_eq_true (by omega)]) | (rw [if_neg (by omega), decide_eq_false (by omega)]), rfl⟩
  ·
    have a3 : (↑xs.length : Int) = 4 := of_decide_eq_true (bn_f q1)
    refine W.skip ?_
    refine W.seq ?_
    obtain ⟨b4, o5, rfl, _⟩ := hs.elem 0 (by omega) 0
    refine W.draw [true, true, true, true, true, true, true, true, true, true, true, true, true, true, true, true, true] (fun s => s = σ) (by kernel_rfl) (by kernel_rfl) ?_
    refine DL.v (fun _ hD => by cases hD; exact o_move (v := (.slice (some ⟨b4, o5, none⟩) xs.length c)) rfl) ?_
    refine DL.v (fun _ hD => by cases hD; exact o_indexAddr (b := b4) (off := o5) (n := xs.length) (c := c) 0 Try.underlying22 Try.sizeOf23 rfl rfl (by omega)) ?_
    refine DL.v (fun _ hD => by cases hD; exact o_load (b := b4) (off := o5 + 0 * 1) (v := (.float .f32 (xs.getD 0 0))) Try.isAgg23 rfl (Rds.fst (hs.at 0 (by omega) 0)) rfl) ?_
    refine DL.v (fun _ hD => by cases hD; exact o_move (v := (.slice (some ⟨b4, o5, none⟩) xs.length c)) rfl) ?_
    refine DL.v (fun _ hD => by cases hD; exact o_indexAddr (b := b4) (off := o5) (n := xs.length) (c := c) 3 Try.underlying22 Try.sizeOf23 rfl rfl (by omega)) ?_
    refine DL.v (fun _ hD => by cases hD; exact o_load (b := b4) (off := o5 + 3 * 1) (v := (.float .f32 (xs.getD 3 0))) Try.isAgg23 rfl (Rds.fst (hs.at 3 (by omega) 0)) rfl) ?_
    refine DL.v (fun _ hD => by cases hD; exact o_farith (k := .f32) (a := xs.getD 0 0) (b := xs.getD 3 0) rfl rfl rfl) ?_
    refine DL.v (fun _ hD => by cases hD; exact o_move (v := (.slice (some ⟨b4, o5, none⟩) xs.length c)) rfl) ?_
    refine DL.v (fun _ hD => by cases hD; exact o_indexAddr (b := b4) (off := o5) (n := xs.length) (c := c) 1 Try.underlying22 Try.sizeOf23 rfl rfl (by omega)) ?_
    refine DL.v (fun _ hD => by cases hD; exact o_load (b := b4) (off := o5 + 1 * 1) (v := (.float .f32 (xs.getD 1 0))) Try.isAgg23 rfl (Rds.fst (hs.at 1 (by omega) 0)) rfl) ?_
    refine DL.v (fun _ hD => by cases hD; exact o_move (v := (.slice (some ⟨b4, o5, none⟩) xs.length c)) rfl) ?_
    refine DL.v (fun _ hD => by cases hD; exact o_indexAddr (b := b4) (off := o5) (n := xs.length) (c := c) 2 Try.underlying22 Try.sizeOf23 rfl rfl (by omega)) ?_
    refine DL.v (fun _ hD => by cases hD; exact o_load (b := b4) (off := o5 + 2 * 1) (v := (.float .f32 (xs.getD 2 0))) Try.isAgg23 rfl (Rds.fst (hs.at 2 (by omega) 0)) rfl) ?_
    refine DL.v (fun _ hD => by cases hD; exact o_farith (k := .f32) (a := xs.getD 1 0) (b := xs.getD 2 0) rfl rfl rfl) ?_
    refine DL.v (fun _ hD => by cases hD; exact o_farith (k := .f32) (a := fop .mul .f32 (xs.getD 0 0) (xs.getD 3 0)) (b := fop .mul .f32 (xs.getD 1 0) (xs.getD 2 0)) rfl rfl rfl) ?_
    refine DL.v (fun _ hD => by cases hD; exact o_assign (v := (.float .f32 (fop .sub .f32 (fop .mul .f32 (xs.getD 0 0) (xs.getD 3 0)) (fop .mul .f32 (xs.getD 1 0) (xs.getD 2 0))))) rfl) ?_
    refine DL.v (fun _ hD => by cases hD; exact o_assign (v := (.bool true)) rfl) ?_
    refine DL.nil rfl ?_
    refine W.ret ?_
    exact RetK.two σ (.float .f32 (fop .sub .f32 (fop .mul .f32 (xs.getD 0 0) (xs.getD 3 0)) (fop .mul .f32 (xs.getD 1 0) (xs.getD 2 0)))) (.bool true) rfl rfl rfl rfl rfl (Ext.refl _) ⟨by unfold detF; first | (rw [if_pos (by omega), decide_eq_true (by omega)]) | (rw [if_neg (by omega), decide_eq_false (by omega)]), rfl⟩

theorem lawDet {w0 : World} {σ : Sg} (p : Option Addr) (c : Nat) (xs : List Nat) (hs : Sl σ 1 p (xs.map fl)) :
    Fn Try.prog w0 3 [(.slice p xs.length c)] σ (fun u _ => u = .bool true) := by
  refine Fn.of_W 40 Try.func3 rfl Try.ntmps3 rfl ?_
  refine W.seq ?_
  refine W.region ?_
  refine L.v (o_assign (v := (.bool false)) rfl) ?_
  refine L.nil ?_
  refine W.seq ?_
  refine W.seq ?_
  refine W.region ?_
  refine L.v (o_move (v := (.slice p xs.length c)) rfl) ?_
  refine L.v (o_len (p := p) (n := xs.length) (c := c) Try.underlying22 rfl) ?_
  refine L.v (o_igtr (a := ↑xs.length) (b := 1048576) rfl rfl rfl) ?_
  refine L.nil ?_
  refine W.cond (b := decide ((1048576 : Int) < ↑xs.length)) rfl (fun q1 => ?_) (fun q1 => ?_)
  ·
    have a2 : (1048576 : Int) < ↑xs.length := of_decide_eq_true q1
    refine W.seq ?_
    refine W.region ?_
    refine L.v (o_assign (v := (.bool true)) rfl) ?_
    refine L.nil ?_
    refine W.ret ?_
    exact RetK.one _ (.bool true) rfl rfl (Ext.refl _) rfl
  ·
    have a3 : ¬ ((1048576 : Int) < ↑xs.length) := of_decide_eq_false q1
    refine W.skip ?_
    refine W.seq ?_
    refine W.region ?_
    refine L.v (o_move (v := (.slice p xs.length c)) rfl) ?_
    refine L.cons (op_call [(.slice p xs.length c)] Try.call12 rfl (toF32S p c xs hs (by omega))) ?_
    rintro _ s6 ⟨p4, c5, rfl, fs7⟩
    have hs8 := Sl.ext hs fs7.ext
    have ex9 := Ext.trans (Ext.refl σ) fs7.ext
    refine L.v (v := (.tuple #[(.float .f32 (detF xs)), (.bool (decide (xs.length = 4)))])) (op_call [(.slice p4 xs.length c5)] Try.call11 rfl (specDet p4 c5 xs fs7.reads)) ?_
    refine L.v (o_move (v := (.tuple #[(.float .f32 (detF xs)), (.bool (decide (xs.length = 4)))])) rfl) ?_
    refine L.v (o_extract (vs := #[(.float .f32 (detF xs)), (.bool (decide (xs.length = 4)))]) (v := (.float .f32 (detF xs))) rfl rfl rfl) ?_
    refine L.v (o_extract (vs := #[(.float .f32 (detF xs)), (.bool (decide (xs.length = 4)))]) (v := (.bool (decide (xs.length = 4)))) rfl rfl rfl) ?_
    refine L.v (o_assign (v := (.float .f32 (detF xs))) rfl) ?_
    refine L.v (o_assign (v := (.bool (decide (xs.length = 4)))) rfl) ?_
    refine L.nil ?_
    refine W.seq ?_
    refine W.region ?_
    refine L.v (o_move (v := (.slice p xs.length c)) rfl) ?_
    refine L.cons (op_call [(.slice p xs.length c)] Try.call12 rfl (toF32S p c xs hs8 (by omega))) ?_
    rintro _ s12 ⟨p10, c11, rfl, fs13⟩
    have hs14 := Sl.ext hs8 fs13.ext
    have hs15 := Sl.ext fs7.reads fs13.ext
    have ex16 := Ext.trans ex9 fs13.ext
    refine L.v (o_assign (v := (.slice p10 xs.length c11)) rfl) ?_
    refine L.nil ?_
    refine W.seq ?_
    refine W.region ?_
    refine L.v (o_move (v := (.slice p10 xs.length c11)) rfl) ?_
    refine L.v (v := (.tuple #[(.float .f32 (detF xs)), (.bool (decide (xs.length = 4)))])) (op_call [(.slice p10 xs.length c11)] Try.call13 rfl (implDet p10 c11 xs fs13.reads)) ?_
    refine L.v (o_move (v := (.tuple #[(.float .f32 (detF xs)), (.bool (decide (xs.length = 4)))])) rfl) ?_
    refine L.v (o_extract (vs := #[(.float .f32 (detF xs)), (.bool (decide (xs.length = 4)))]) (v := (.float .f32 (detF xs))) rfl rfl rfl) ?_
    refine L.v (o_extract (vs := #[(.float .f32 (detF xs)), (.bool (decide (xs.length = 4)))]) (v := (.bool (decide (xs.length = 4)))) rfl rfl rfl) ?_
    refine L.v (o_assign (v := (.float .f32 (detF xs))) rfl) ?_
    refine L.v (o_assign (v := (.bool (decide (xs.length = 4)))) rfl) ?_
    refine L.nil ?_
    refine W.seq ?_
    refine W.seq ?_
    refine W.region ?_
    refine L.v (o_move (v := (.float .f32 (detF xs))) rfl) ?_
    refine L.v (o_cvFF (s := .f32) (d := .f64) (a := detF xs) (by rw [Try.underlying23]; rfl) Try.underlying28 rfl (okw (detF xs))) ?_
    refine L.v (o_move (v := (.float .f32 (detF xs))) rfl) ?_
    refine L.v (o_cvFF (s := .f32) (d := .f64) (a := detF xs) (by rw [Try.underlying23]; rfl) Try.underlying28 rfl (okw (detF xs))) ?_
    refine L.v (v := (.bool true)) (op_call [(.float .f64 (cvt .f32 .f64 (detF xs))), (.float .f64 (cvt .f32 .f64 (detF xs)))] Try.call14 rfl (sameFloat_c (cvt .f32 .f64 (detF xs)))) ?_
    refine L.v (o_not (b := true) (c := false) rfl rfl) ?_
    refine L.v (o_move (v := (.bool false)) rfl) ?_
    refine L.gv (j := 6) (d₁ := 30) (b := false) rfl rfl rfl rfl (o_move (v := (.bool (decide (xs.length = 4)))) rfl) ?_
    refine L.gv (j := 6) (d₁ := 30) (b := false) rfl rfl rfl rfl (o_move (v := (.bool (decide (xs.length = 4)))) rfl) ?_
    refine L.gv (j := 6) (d₁ := 30) (b := false) rfl rfl rfl rfl (o_bneq (a := decide (xs.length = 4)) (b := decide (xs.length = 4)) (c := false) Try.underlying4 rfl rfl (by simp)) ?_
    refine L.v (o_pickF (b := false) (v := (.bool false)) rfl rfl rfl) ?_
    refine L.nil ?_
    refine W.condF (b := false) rfl rfl ?_
    refine W.skip ?_
    refine W.seq ?_
    refine W.seq ?_
    refine W.region ?_
    refine L.v (o_move (v := (.slice p10 xs.length c11)) rfl) ?_
    refine L.v (o_move (v := (.slice p xs.length c)) rfl) ?_
    refine L.cons (op_call [(.slice p xs.length c)] Try.call12 rfl (toF32S p c xs hs14 (by omega))) ?_
    rintro _ s19 ⟨p17, c18, rfl, fs20⟩
    have hs21 := Sl.ext hs14 fs20.ext
    have hs22 := Sl.ext hs15 fs20.ext
    have hs23 := Sl.ext fs13.reads fs20.ext
    have ex24 := Ext.trans ex16 fs20.ext
    refine L.v (v := (.bool true)) (op_call [(.slice p10 xs.length c11), (.slice p17 xs.length c18)] Try.call15 rfl (eqF32S p10 p17 c11 c18 xs hs23 fs20.reads (by omega))) ?_
    refine L.v (o_not (b := true) (c := false) rfl rfl) ?_
    refine L.nil ?_
    refine W.condF (b := false) rfl rfl ?_
    refine W.skip ?_
    refine W.seq ?_
    refine W.region ?_
    refine L.v (o_assign (v := (.bool true)) rfl) ?_
    refine L.nil ?_
    refine W.ret ?_
    exact RetK.one _ (.bool true) rfl rfl (Ext.refl _) rfl

theorem specTrace {w0 : World} {σ : Sg} (p : Option Addr) (c : Nat) (xs : List Nat) (hs : Sl σ 1 p (xs.map fl)) :
    FnV Try.prog w0 16 [(.slice p xs.length c)] σ (.tuple #[.float .f32 (traceF xs), .bool (decide (xs.length = 4))]) := by
  unfold FnV
  refine Fn.of_W 14 Try.func16 rfl Try.ntmps16 rfl ?_
  refine W.seq ?_
  refine W.region ?_
  refine L.v (o_assign (v := (.float .f32 0)) rfl) ?_
  refine L.v (o_assign (v := (.bool false)) rfl) ?_
  refine L.nil ?_
  refine W.seq ?_
  refine W.seq ?_
  refine W.region ?_
  refine L.v (o_move (v := (.slice p xs.length c)) rfl) ?_
  refine L.v (o_len (p := p) (n := xs.length) (c := c) Try.underlying22 rfl) ?_
  refine L.v (o_ineq (a := ↑xs.length) (b := 4) rfl rfl rfl) ?_
  refine L.nil ?_
  refine W.cond (b := !decide ((↑xs.length : Int) = 4)) rfl (fun q1 => ?_) (fun q1 => ?_)
  ·
    have a2 : ¬ ((↑xs.length : Int) = 4) := of_decide_eq_false (bn_t q1)
    refine W.seq ?_
    refine W.region ?_
    refine L.v (o_assign (v := (.float .f32 0)) rfl) ?_
    refine L.v (o_assign (v := (.bool false)) rfl) ?_
    refine L.nil ?_
    refine W.ret ?_
    exact RetK.two σ (.float .f32 0) (.bool false) rfl rfl rfl rfl rfl (Ext.refl _) ⟨by unfold traceF; first | (rw [if_pos (by omega), decide_eq_true (by omega)]) | (rw [if_neg (by omega), decide_eq_false (by omega)]), rfl⟩
  ·
    have a3 : (↑xs.length : Int) = 4 := of_decide_eq_true (bn_f q1)
    refine W.skip ?_
    refine W.seq ?_
    obtain ⟨b4, o5, rfl, _⟩ := hs.elem 0 (by omega) 0
    refine W.draw [true, true, true, true, true, true, true, true, true] (fun s => s = σ) (by kernel_rfl) (by kernel_rfl) ?_
    refine DL.v (fun _ hD => by cases hD; exact o_move (v := (.slice (some ⟨b4, o5, none⟩) xs.length c)) rfl) ?_
    refine DL.v (fun _ hD => by cases hD; exact o_indexAddr (b := b4) (off := o5) (n := xs.length) (c := c) 0 Try.underlying22 Try.sizeOf23 rfl rfl (by omega)) ?_
    refine DL.v (fun _ hD => by cases hD; exact o_load (b := b4) (off := o5 + 0 * 1) (v := (.float .f32 (xs.getD 0 0))) Try.isAgg23 rfl (Rds.fst (hs.at 0 (by omega) 0)) rfl) ?_
    refine DL.v (fun _ hD => by cases hD; exact o_move (v := (.slice (some ⟨b4, o5, none⟩) xs.length c)) rfl) ?_
    refine DL.v (fun _ hD => by cases hD; exact o_indexAddr (b := b4) (off := o5) (n := xs.length) (c := c) 3 Try.underlying22 Try.sizeOf23 rfl rfl (by omega)) ?_
    refine DL.v (fun _ hD => by cases hD; exact o_load (b := b4) (off := o5 + 3 * 1) (v := (.float .f32 (xs.getD 3 0))) Try.isAgg23 rfl (Rds.fst (hs.at 3 (by omega) 0)) rfl) ?_
    refine DL.v (fun _ hD => by cases hD; exact o_farith (k := .f32) (a := xs.getD 0 0) (b := xs.getD 3 0) rfl rfl rfl) ?_
    refine DL.v (fun _ hD => by cases hD; exact o_assign (v := (.float .f32 (fop .add .f32 (xs.getD 0 0) (xs.getD 3 0)))) rfl) ?_
    refine DL.v (fun _ hD => by cases hD; exact o_assign (v := (.bool true)) rfl) ?_
    refine DL.nil rfl ?_
    refine W.ret ?_
    exact RetK.two σ (.float .f32 (fop .add .f32 (xs.getD 0 0) (xs.getD 3 0))) (.bool true) rfl rfl rfl rfl rfl (Ext.refl _) ⟨by unfold traceF; first | (rw [if_pos (by omega), decide_eq_true (by omega)]) | (rw [if_neg (by omega), decide_eq_false (by omega)]), rfl⟩

theorem implTrace {w0 : World} {σ : Sg} (p : Option Addr) (c : Nat) (xs : List Nat) (hs : Sl σ 1 p (xs.map fl)) :
    FnV Try.prog w0 17 [(.slice p xs.length c)] σ (.tuple #[.float .f32 (traceF xs), .bool (decide (xs.length = 4))]) := by
  unfold FnV
  refine Fn.of_W 14 Try.func17 rfl Try.ntmps17 rfl ?_
  refine W.seq ?_
  refine W.region ?_
  refine L.v (o_assign (v := (.float .f32 0)) rfl) ?_
  refine L.v (o_assign (v := (.bool false)) rfl) ?_
  refine L.nil ?_
  refine W.seq ?_
  refine W.seq ?_
  refine W.region ?_
  refine L.v (o_move (v := (.slice p xs.length c)) rfl) ?_
  refine L.v (o_len (p := p) (n := xs.length) (c := c) Try.underlying22 rfl) ?_
  refine L.v (o_ineq (a := ↑xs.length) (b := 4) rfl rfl rfl) ?_
  refine L.nil ?_
  refine W.cond (b := !decide ((↑xs.length : Int) = 4)) rfl (fun q1 => ?_) (fun q1 => ?_)
  ·
    have a2 : ¬ ((↑xs.length : Int) = 4) := of_decide_eq_false (bn_t q1)
    refine W.seq ?_
    refine W.region ?_
    refine L.v (o_assign (v := (.float .f32 0)) rfl) ?_
    refine L.v (o_assign (v := (.bool false)) rfl) ?_
    refine L.nil ?_
    refine W.ret ?_
    exact RetK.two σ (.float .f32 0) (.bool false) rfl rfl rfl rfl rfl (Ext.refl _) ⟨by unfold traceF; first | (rw [if_pos (by omega), decide_eq_true (by omega)]) | (rw [if_neg (by omega), decide_eq_false (by omega)]), rfl⟩
  ·
    have a3 : (↑xs.length : Int) = 4 := of_decide_eq_true (bn_f q1)
    refine W.skip ?_
    refine W.seq ?_
    obtain ⟨b4, o5, rfl, _⟩ := hs.elem 0 (by omega) 0
    refine W.draw [true, true, true, true, true, true, true, true, true] (fun s => s = σ) (by kernel_rfl) (by kernel_rfl) ?_
    refine DL.v (fun _ hD => by cases hD; exact o_move (v := (.slice (some ⟨b4, o5, none⟩) xs.length c)) rfl) ?_
    refine DL.v (fun _ hD => by cases hD; exact o_indexAddr (b := b4) (off := o5) (n := xs.length) (c := c) 0 Try.underlying22 Try.sizeOf23 rfl rfl (by omega)) ?_
    refine DL.v (fun _ hD => by cases hD; exact o_load (b := b4) (off := o5 + 0 * 1) (v := (.float .f32 (xs.getD 0 0))) Try.isAgg23 rfl (Rds.fst (hs.at 0 (by omega) 0)) rfl) ?_
    refine DL.v (fun _ hD => by cases hD; exact o_move (v := (.slice (some ⟨b4, o5, none⟩) xs.length c)) rfl) ?_
    refine DL.v (fun _ hD => by cases hD; exact o_indexAddr (b := b4) (off := o5) (n := xs.length) (c := c) 3 Try.underlying22 Try.sizeOf23 rfl rfl (by omega)) ?_
    refine DL.v (fun _ hD => by cases hD; exact o_load (b := b4) (off := o5 + 3 * 1) (v := (.float .f32 (xs.getD 3 0))) Try.isAgg23 rfl (Rds.fst (hs.at 3 (by omega) 0)) rfl) ?_
    refine DL.v (fun _ hD => by cases hD; exact o_farith (k := .f32) (a := xs.getD 0 0) (b := xs.getD 3 0) rfl rfl rfl) ?_
    refine DL.v (fun _ hD => by cases hD; exact o_assign (v := (.float .f32 (fop .add .f32 (xs.getD 0 0) (xs.getD 3 0)))) rfl) ?_
    refine DL.v (fun _ hD => by cases hD; exact o_assign (v := (.bool true)) rfl) ?_
    refine DL.nil rfl ?_
    refine W.ret ?_
    exact RetK.two σ (.float .f32 (fop .add .f32 (xs.getD 0 0) (xs.getD 3 0))) (.bool true) rfl rfl rfl rfl rfl (Ext.refl _) ⟨by unfold traceF; first | (rw [if_pos (by omega), decide_eq_true (by omega)]) | (rw [if_neg (by omega), decide_eq_false (by omega)]), rfl⟩

theorem lawTrace {w0 : World} {σ : Sg} (p : Option Addr) (c : Nat) (xs : List Nat) (hs : Sl σ 1 p (xs.map fl)) :
    Fn Try.prog w0 4 [(.slice p xs.length c)] σ (fun u _ => u = .bool true) := by
  refine Fn.of_W 40 Try.func4 rfl Try.ntmps4 rfl ?_
  refine W.seq ?_
  refine W.region ?_
  refine L.v (o_assign (v := (.bool false)) rfl) ?_
  refine L.nil ?_
  refine W.seq ?_
  refine W.seq ?_
  refine W.region ?_
  refine L.v (o_move (v := (.slice p xs.length c)) rfl) ?_
  refine L.v (o_len (p := p) (n := xs.length) (c := c) Try.underlying22 rfl) ?_
  refine L.v (o_igtr (a := ↑xs.length) (b := 1048576) rfl rfl rfl) ?_
  refine L.nil ?_
  refine W.cond (b := decide ((1048576 : Int) < ↑xs.length)) rfl (fun q1 => ?_) (fun q1 => ?_)
  ·
    have a2 : (1048576 : Int) < ↑xs.length := of_decide_eq_true q1
    refine W.seq ?_
    refine W.region ?_
    refine L.v (o_assign (v := (.bool true)) rfl) ?_
    refine L.nil ?_
    refine W.ret ?_
    exact RetK.one _ (.bool true) rfl rfl (Ext.refl _) rfl
  ·
    have a3 : ¬ ((1048576 : Int) < ↑xs.length) := of_decide_eq_false q1
    refine W.skip ?_
    refine W.seq ?_
    refine W.region ?_
    refine L.v (o_move (v := (.slice p xs.length c)) rfl) ?_
    refine L.cons (op_call [(.slice p xs.length c)] Try.call12 rfl (toF32S p c xs hs (by omega))) ?_
    rintro _ s6 ⟨p4, c5, rfl, fs7⟩
    have hs8 := Sl.ext hs fs7.ext
    have ex9 := Ext.trans (Ext.refl σ) fs7.ext
    refine L.v (v := (.tuple #[(.float .f32 (traceF xs)), (.bool (decide (xs.length = 4)))])) (op_call [(.slice p4 xs.length c5)] Try.call16 rfl (specTrace p4 c5 xs fs7.reads)) ?_
    refine L.v (o_move (v := (.tuple #[(.float .f32 (traceF xs)), (.bool (decide (xs.length = 4)))])) rfl) ?_
    refine L.v (o_extract (vs := #[(.float .f32 (traceF xs)), (.bool (decide (xs.length = 4)))]) (v := (.float .f32 (traceF xs))) rfl rfl rfl) ?_
    refine L.v (o_extract (vs := #[(.float .f32 (traceF xs)), (.bool (decide (xs.length = 4)))]) (v := (.bool (decide (xs.length = 4)))) rfl rfl rfl) ?_
    refine L.v (o_assign (v := (.float .f32 (traceF xs))) rfl) ?_
    refine L.v (o_assign (v := (.bool (decide (xs.length = 4)))) rfl) ?_
    refine L.nil ?_
    refine W.seq ?_
    refine W.region ?_
    refine L.v (o_move (v := (.slice p xs.length c)) rfl) ?_
    refine L.cons (op_call [(.slice p xs.length c)] Try.call12 rfl (toF32S p c xs hs8 (by omega))) ?_
    rintro _ s12 ⟨p10, c11, rfl, fs13⟩
    have hs14 := Sl.ext hs8 fs13.ext
    have hs15 := Sl.ext fs7.reads fs13.ext
    have ex16 := Ext.trans ex9 fs13.ext
    refine L.v (o_assign (v := (.slice p10 xs.length c11)) rfl) ?_
    refine L.nil ?_
    refine W.seq ?_
    refine W.region ?_
    refine L.v (o_move (v := (.slice p10 xs.length c11)) rfl) ?_
    refine L.v (v := (.tuple #[(.float .f32 (traceF xs)), (.bool (decide (xs.length = 4)))])) (op_call [(.slice p10 xs.length c11)] Try.call17 rfl (implTrace p10 c11 xs fs13.reads)) ?_
    refine L.v (o_move (v := (.tuple #[(.float .f32 (traceF xs)), (.bool (decide (xs.length = 4)))])) rfl) ?_
    refine L.v (o_extract (vs := #[(.float .f32 (traceF xs)), (.bool (decide (xs.length = 4)))]) (v := (.float .f32 (traceF xs))) rfl rfl rfl) ?_
    refine L.v (o_extract (vs := #[(.float .f32 (traceF xs)), (.bool (decide (xs.length = 4)))]) (v := (.bool (decide (xs.length = 4)))) rfl rfl rfl) ?_
    refine L.v (o_assign (v := (.float .f32 (traceF xs))) rfl) ?_
    refine L.v (o_assign (v := (.bool (decide (xs.length = 4)))) rfl) ?_
    refine L.nil ?_
    refine W.seq ?_
    refine W.seq ?_
    refine W.region ?_
    refine L.v (o_move (v := (.float .f32 (traceF xs))) rfl) ?_
    refine L.v (o_cvFF (s := .f32) (d := .f64) (a := traceF xs) (by rw [Try.underlying23]; rfl) Try.underlying28 rfl (okw (traceF xs))) ?_
    refine L.v (o_move (v := (.float .f32 (traceF xs))) rfl) ?_
    refine L.v (o_cvFF (s := .f32) (d := .f64) (a := traceF xs) (by rw [Try.underlying23]; rfl) Try.underlying28 rfl (okw (traceF xs))) ?_
    refine L.v (v := (.bool true)) (op_call [(.float .f64 (cvt .f32 .f64 (traceF xs))), (.float .f64 (cvt .f32 .f64 (traceF xs)))] Try.call14 rfl (sameFloat_c (cvt .f32 .f64 (traceF xs)))) ?_
    refine L.v (o_not (b := true) (c := false) rfl rfl) ?_
    refine L.v (o_move (v := (.bool false)) rfl) ?_
    refine L.gv (j := 6) (d₁ := 30) (b := false) rfl rfl rfl rfl (o_move (v := (.bool (decide (xs.length = 4)))) rfl) ?_
    refine L.gv (j := 6) (d₁ := 30) (b := false) rfl rfl rfl rfl (o_move (v := (.bool (decide (xs.length = 4)))) rfl) ?_
    refine L.gv (j := 6) (d₁ := 30) (b := false) rfl rfl rfl rfl (o_bneq (a := decide (xs.length = 4)) (b := decide (xs.length = 4)) (c := false) Try.underlying4 rfl rfl (by simp)) ?_
    refine L.v (o_pickF (b := false) (v := (.bool false)) rfl rfl rfl) ?_
    refine L.nil ?_
    refine W.condF (b := false) rfl rfl ?_
    refine W.skip ?_
    refine W.seq ?_
    refine W.seq ?_
    refine W.region ?_
    refine L.v (o_move (v := (.slice p10 xs.length c11)) rfl) ?_
    refine L.v (o_move (v := (.slice p xs.length c)) rfl) ?_
    refine L.cons (op_call [(.slice p xs.length c)] Try.call12 rfl (toF32S p c xs hs14 (by omega))) ?_
    rintro _ s19 ⟨p17, c18, rfl, fs20⟩
    have hs21 := Sl.ext hs14 fs20.ext
    have hs22 := Sl.ext hs15 fs20.ext
    have hs23 := Sl.ext fs13.reads fs20.ext
    have ex24 := Ext.trans ex16 fs20.ext
    refine L.v (v := (.bool true)) (op_call [(.slice p10 xs.length c11), (.slice p17 xs.length c18)] Try.call15 rfl (eqF32S p10 p17 c11 c18 xs hs23 fs20.reads (by omega))) ?_
    refine L.v (o_not (b := true) (c := false) rfl rfl) ?_
    refine L.nil ?_
    refine W.condF (b := false) rfl rfl ?_
    refine W.skip ?_
    refine W.seq ?_
    refine W.region ?_
    refine L.v (o_assign (v := (.bool true)) rfl) ?_
    refine L.nil ?_
    refine W.ret ?_
    exact RetK.one _ (.bool true) rfl rfl (Ext.refl _) rfl

end Go.Proofs.Ytakeanehgfbbaaa.En
