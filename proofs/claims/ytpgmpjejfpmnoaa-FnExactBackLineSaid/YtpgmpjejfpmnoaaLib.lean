/- The laws' own helpers over lists of numbers and grids; what makes a grid and a field. -/
import Derived.Test.YtpgmpjejfpmnoaaEngM
import Derived.Test.YtpgmpjejfpmnoaaRows
namespace Go.Proofs.Ytpgmpjejfpmnoaa.En
open Go
set_option linter.unusedVariables false
theorem sameFloat_c {w0 : World} {σ : Sg} (a : Nat) :
    FnV Try.prog w0 44 [(.float .f64 a), (.float .f64 a)] σ (.bool true) := by
  unfold FnV
  refine Fn.of_W 37 Try.func44 rfl Try.ntmps44 rfl ?_
  refine W.seq ?_
  refine W.region ?_
  refine L.v (o_assign (v := (.bool false)) rfl) ?_
  refine L.nil ?_
  refine W.seq ?_
  refine W.seq ?_
  refine W.region ?_
  refine L.v (o_move (v := (.float .f64 a)) rfl) ?_
  refine L.v (o_move (v := (.float .f64 a)) rfl) ?_
  refine L.v (o_fcmp (k := .f64) (a := a) (b := a) rfl rfl rfl rfl) ?_
  refine L.v (o_move (v := (.bool (fcmp .neq .f64 a a))) rfl) ?_
  rcases Bool.eq_false_or_eq_true (fcmp .neq .f64 a a) with q1 | q1
  ·
    refine L.gF (j := 3) (d₁ := 8) (b := fcmp .neq .f64 a a) rfl rfl rfl q1 ?_
    refine L.gF (j := 3) (d₁ := 8) (b := fcmp .neq .f64 a a) rfl rfl rfl q1 ?_
    refine L.gF (j := 3) (d₁ := 8) (b := fcmp .neq .f64 a a) rfl rfl rfl q1 ?_
    refine L.v (o_pickT (b := fcmp .neq .f64 a a) (v := (.bool true)) rfl q1 rfl) ?_
    refine L.nil ?_
    refine W.condT (b := true) rfl rfl ?_
    refine W.seq ?_
    refine W.region ?_
    refine L.v (o_move (v := (.float .f64 a)) rfl) ?_
    refine L.v (o_move (v := (.float .f64 a)) rfl) ?_
    refine L.v (o_fcmp (k := .f64) (a := a) (b := a) rfl rfl rfl rfl) ?_
    refine L.v (o_move (v := (.bool (fcmp .neq .f64 a a))) rfl) ?_
    refine L.gv (j := 3) (d₁ := 16) (b := fcmp .neq .f64 a a) rfl rfl rfl q1 (o_move (v := (.float .f64 a)) rfl) ?_
    refine L.gv (j := 3) (d₁ := 16) (b := fcmp .neq .f64 a a) rfl rfl rfl q1 (o_move (v := (.float .f64 a)) rfl) ?_
    refine L.gv (j := 3) (d₁ := 16) (b := fcmp .neq .f64 a a) rfl rfl rfl q1 (o_fcmp (k := .f64) (a := a) (b := a) rfl rfl rfl rfl) ?_
    refine L.v (o_pickT (b := fcmp .neq .f64 a a) (v := (.bool (fcmp .neq .f64 a a))) rfl q1 rfl) ?_
    refine L.v (o_assign (v := (.bool (fcmp .neq .f64 a a))) rfl) ?_
    refine L.nil ?_
    refine W.ret ?_
    exact RetK.one σ (.bool (fcmp .neq .f64 a a)) rfl rfl (Ext.refl _) ⟨congrArg Value.bool q1, rfl⟩
  ·
    refine L.gv (j := 3) (d₁ := 8) (b := fcmp .neq .f64 a a) rfl rfl rfl q1 (o_move (v := (.float .f64 a)) rfl) ?_
    refine L.gv (j := 3) (d₁ := 8) (b := fcmp .neq .f64 a a) rfl rfl rfl q1 (o_move (v := (.float .f64 a)) rfl) ?_
    refine L.gv (j := 3) (d₁ := 8) (b := fcmp .neq .f64 a a) rfl rfl rfl q1 (o_fcmp (k := .f64) (a := a) (b := a) rfl rfl rfl rfl) ?_
    refine L.v (o_pickF (b := fcmp .neq .f64 a a) (v := (.bool (fcmp .neq .f64 a a))) rfl q1 rfl) ?_
    refine L.nil ?_
    refine W.condF (b := fcmp .neq .f64 a a) rfl q1 ?_
    refine W.skip ?_
    refine W.seq ?_
    refine W.seq ?_
    refine W.region ?_
    refine L.v (o_move (v := (.float .f64 a)) rfl) ?_
    refine L.v (o_fcmp (k := .f64) (a := a) (b := 0) rfl rfl rfl rfl) ?_
    refine L.v (o_move (v := (.bool (fcmp .eql .f64 a 0))) rfl) ?_
    rcases Bool.eq_false_or_eq_true (fcmp .eql .f64 a 0) with q2 | q2
    ·
      refine L.gv (j := 2) (d₁ := 23) (b := fcmp .eql .f64 a 0) rfl rfl rfl q2 (o_move (v := (.float .f64 a)) rfl) ?_
      refine L.gv (j := 2) (d₁ := 23) (b := fcmp .eql .f64 a 0) rfl rfl rfl q2 (o_fcmp (k := .f64) (a := a) (b := 0) rfl rfl rfl rfl) ?_
      refine L.v (o_pickT (b := fcmp .eql .f64 a 0) (v := (.bool (fcmp .eql .f64 a 0))) rfl q2 rfl) ?_
      refine L.nil ?_
      refine W.condT (b := fcmp .eql .f64 a 0) rfl q2 ?_
      refine W.seq ?_
      refine W.region ?_
      refine L.v (o_move (v := (.float .f64 a)) rfl) ?_
      refine L.v (o_farith (k := .f64) (a := 4607182418800017408) (b := a) rfl rfl rfl) ?_
      refine L.v (o_fcmp (k := .f64) (a := fop .quo .f64 4607182418800017408 a) (b := 0) rfl rfl rfl rfl) ?_
      refine L.v (o_move (v := (.float .f64 a)) rfl) ?_
      refine L.v (o_farith (k := .f64) (a := 4607182418800017408) (b := a) rfl rfl rfl) ?_
      refine L.v (o_fcmp (k := .f64) (a := fop .quo .f64 4607182418800017408 a) (b := 0) rfl rfl rfl rfl) ?_
      refine L.v (o_beql (a := fcmp .gtr .f64 (fop .quo .f64 4607182418800017408 a) 0) (b := fcmp .gtr .f64 (fop .quo .f64 4607182418800017408 a) 0) (c := true) Try.underlying4 rfl rfl (by simp)) ?_
      refine L.v (o_assign (v := (.bool true)) rfl) ?_
      refine L.nil ?_
      refine W.ret ?_
      exact RetK.one σ (.bool true) rfl rfl (Ext.refl _) ⟨congrArg Value.bool rfl, rfl⟩
    ·
      refine L.gF (j := 2) (d₁ := 23) (b := fcmp .eql .f64 a 0) rfl rfl rfl q2 ?_
      refine L.gF (j := 2) (d₁ := 23) (b := fcmp .eql .f64 a 0) rfl rfl rfl q2 ?_
      refine L.v (o_pickF (b := fcmp .eql .f64 a 0) (v := (.bool false)) rfl q2 rfl) ?_
      refine L.nil ?_
      refine W.condF (b := false) rfl rfl ?_
      refine W.skip ?_
      refine W.seq ?_
      refine W.region ?_
      refine L.v (o_move (v := (.float .f64 a)) rfl) ?_
      refine L.v (o_move (v := (.float .f64 a)) rfl) ?_
      refine L.v (o_fcmp (k := .f64) (a := a) (b := a) rfl rfl rfl rfl) ?_
      refine L.v (o_assign (v := (.bool (fcmp .eql .f64 a a))) rfl) ?_
      refine L.nil ?_
      refine W.ret ?_
      exact RetK.one σ (.bool (fcmp .eql .f64 a a)) rfl rfl (Ext.refl _) ⟨by first | rfl | (simp; done) | (congr 1; apply fcmp_eql_of; assumption) | (congr 1; simp), rfl⟩

theorem toF32S {w0 : World} {σ : Sg} (p : Option Addr) (c : Nat) (xs : List Nat) (hs : Sl σ 1 p (xs.map fl)) (hn : xs.length ≤ 1048576) :
    Fn Try.prog w0 12 [(.slice p xs.length c)] σ (fun u s => ∃ p, u = .slice p xs.length xs.length ∧ Fsl w0 σ 1 (xs.map fl) p s) := by
  refine Fn.of_W 22 Try.func12 rfl Try.ntmps12 rfl ?_
  refine W.seq ?_
  refine W.region ?_
  refine L.v (o_assign (v := (.slice none 0 0)) rfl) ?_
  refine L.nil ?_
  refine W.seq ?_
  refine W.region ?_
  refine L.v (o_move (v := (.slice p xs.length c)) rfl) ?_
  refine L.v (o_len (p := p) (n := xs.length) (c := c) Try.underlying24 rfl) ?_
  refine L.cons (o_makeSlice (ik := .i64) (info := Try.t56) (z := .float .f32 0) xs.length Try.underlying24 Try.type56 rfl rfl (by show 4 * _ ≤ _; omega) (by omega)) ?_
  rintro _ _ ⟨b, hf, hw, rfl, rfl⟩
  rw [show (madeCells ((Value.float .f32 0).cells) (xs.length * Try.t56.size)).toList = List.replicate xs.length (.float .f32 0) by show (madeCells #[_] (xs.length * 1)).toList = _; rw [Nat.mul_one, made_one]]
  refine L.v (o_assign (v := (.slice (some ⟨b, 0, none⟩) xs.length xs.length)) rfl) ?_
  refine L.nil ?_
  refine W.seq ?_
  refine W.seq ?_
  refine W.region ?_
  refine L.v (o_assign (v := (.int .i64 0)) rfl) ?_
  refine L.nil ?_
  refine W.block ?_
  refine W.loop (fun nn tt ss => ∃ (i : Nat), nn = xs.length - i ∧ (i ≤ xs.length) ∧ FrOk tt [(0, (.slice p xs.length c)), (3, (.slice (some ⟨b, 0, none⟩) xs.length xs.length)), (4, (.int .i64 (i : Int)))] ∧ sg σ b (56, (xs.take i).map (Value.float .f32) ++ List.replicate (xs.length - i) (.float .f32 0)) = ss) _ ⟨0, rfl, (by omega), ⟨rfl, rfl, rfl, trivial⟩, (by simp)⟩ ?_
  rintro _ t1 _ ⟨i, rfl, hi, f2, rfl⟩
  rw [← frame_ok f2]
  show W _ _ _ _ _ (upd (upd (upd t1 0 (.slice p xs.length c)) 3 (.slice (some ⟨b, 0, none⟩) xs.length xs.length)) 4 (.int .i64 (i : Int))) _
  refine W.seq ?_
  refine W.seq ?_
  refine W.region ?_
  refine L.v (o_move (v := (.int .i64 (i : Int))) rfl) ?_
  refine L.v (o_move (v := (.slice p xs.length c)) rfl) ?_
  refine L.v (o_len (p := p) (n := xs.length) (c := c) Try.underlying24 rfl) ?_
  refine L.v (o_ilss (a := (i : Int)) (b := (xs.length : Int)) rfl rfl rfl) ?_
  refine L.nil ?_
  refine W.cond (b := decide (((i : Int) : Int) < (xs.length : Int))) rfl (fun q3 => ?_) (fun q3 => ?_)
  ·
    have a4 : ((i : Int) : Int) < (xs.length : Int) := of_decide_eq_true q3
    refine W.skip ?_
    refine W.seq ?_
    refine W.block ?_
    have hs' : Sl (sg σ b (56, (xs.take i).map (Value.float .f32) ++ List.replicate (xs.length - i) (.float .f32 0))) 1 p (xs.map fl) := hs.ext ((Ext.refl _).sg hf)
    obtain ⟨b5, o6, rfl, _⟩ := hs'.elem i (by omega) 0
    refine W.region ?_
    refine L.v (o_move (v := (.slice (some ⟨b, 0, none⟩) xs.length xs.length)) rfl) ?_
    refine L.v (o_move (v := (.int .i64 (i : Int))) rfl) ?_
    refine L.v (o_move (v := (.slice (some ⟨b5, o6, none⟩) xs.length c)) rfl) ?_
    refine L.v (o_move (v := (.int .i64 (i : Int))) rfl) ?_
    refine L.v (o_indexAddr (b := b5) (off := o6) (n := xs.length) (c := c) i Try.underlying24 Try.sizeOf56 rfl rfl (by omega)) ?_
    refine L.v (o_load (b := b5) (off := o6 + i * 1) (v := (.float .f32 (xs.getD i 0))) Try.isAgg56 rfl (Rds.fst (Sl.at hs' i (by omega) 0)) rfl) ?_
    refine L.v (o_indexAddr (b := b) (off := 0) (n := xs.length) (c := xs.length) i Try.underlying24 Try.sizeOf56 rfl rfl (by omega)) ?_
    refine L.cons0 (o_store (b := b) (off := 0 + i * 1) (v := (.float .f32 (xs.getD i 0))) Try.sizeOf56 rfl rfl rfl (sg_eq _ _ _) (by simp; omega) hw) ?_
    rintro _ _ ⟨rfl, rfl⟩
    rw [sg_sg, show 0 + i * 1 = i by omega, fill_step (Value.float .f32) (.float .f32 0) xs i (by omega) 0]
    refine L.nil ?_
    refine W.region ?_
    refine L.v (o_move (v := (.int .i64 (i : Int))) rfl) ?_
    refine L.v (o_iadd (a := (i : Int)) (b := 1) (c := ((i + 1 : Nat) : Int)) rfl rfl (by rw [IntWalk.i64_in _ (by omega)]; try omega)) ?_
    refine L.v (o_assign (v := (.int .i64 (((i + 1 : Nat) : Int)))) rfl) ?_
    refine L.nil ?_
    exact ⟨_, (by omega), i + 1, rfl, (by omega), ⟨rfl, rfl, rfl, trivial⟩, rfl⟩
  ·
    have a7 : ¬ (((i : Int) : Int) < (xs.length : Int)) := of_decide_eq_false q3
    refine W.exit ?_
    refine W.seq ?_
    refine W.region ?_
    refine L.v (o_move (v := (.slice (some ⟨b, 0, none⟩) xs.length xs.length)) rfl) ?_
    refine L.v (o_assign (v := (.slice (some ⟨b, 0, none⟩) xs.length xs.length)) rfl) ?_
    refine L.nil ?_
    refine W.ret ?_
    obtain rfl : i = xs.length := by omega
    rw [show (xs.take xs.length).map (Value.float .f32) ++ List.replicate (xs.length - xs.length) (.float .f32 0) = (xs.map fl).flatten by simp [flat_fl]]
    exact RetK.one _ (.slice (some ⟨b, 0, none⟩) xs.length xs.length) rfl rfl (Ext.refl _) ⟨_, rfl, Fsl.of_newB hf hw (by simp [fl])⟩

theorem eqF32S {w0 : World} {σ : Sg} (p q : Option Addr) (c d : Nat) (xs : List Nat) (hs : Sl σ 1 p (xs.map fl)) (hq : Sl σ 1 q (xs.map fl)) (hn : xs.length ≤ 1048576) :
    FnV Try.prog w0 14 [(.slice p xs.length c), (.slice q xs.length d)] σ (.bool true) := by
  unfold FnV
  refine Fn.of_W 29 Try.func14 rfl Try.ntmps14 rfl ?_
  refine W.seq ?_
  refine W.region ?_
  refine L.v (o_assign (v := (.bool false)) rfl) ?_
  refine L.nil ?_
  refine W.seq ?_
  refine W.seq ?_
  refine W.region ?_
  refine L.v (o_move (v := (.slice p xs.length c)) rfl) ?_
  refine L.v (o_len (p := p) (n := xs.length) (c := c) Try.underlying24 rfl) ?_
  refine L.v (o_move (v := (.slice q xs.length d)) rfl) ?_
  refine L.v (o_len (p := q) (n := xs.length) (c := d) Try.underlying24 rfl) ?_
  refine L.v (o_ineq (a := (xs.length : Int)) (b := (xs.length : Int)) (c := false) rfl rfl (by simp)) ?_
  refine L.nil ?_
  refine W.condF (b := false) rfl rfl ?_
  refine W.skip ?_
  refine W.seq ?_
  refine W.seq ?_
  refine W.region ?_
  refine L.v (o_assign (v := (.int .i64 0)) rfl) ?_
  refine L.nil ?_
  refine W.block ?_
  refine W.loop (fun nn tt ss => ∃ (i : Nat), nn = xs.length - i ∧ (i ≤ xs.length) ∧ FrOk tt [(0, (.slice p xs.length c)), (1, (.slice q xs.length d)), (5, (.int .i64 (i : Int)))] ∧ σ = ss) _ ⟨0, rfl, (by omega), ⟨rfl, rfl, rfl, trivial⟩, rfl⟩ ?_
  rintro _ t1 _ ⟨i, rfl, hi, f2, rfl⟩
  rw [← frame_ok f2]
  show W _ _ _ _ _ (upd (upd (upd t1 0 (.slice p xs.length c)) 1 (.slice q xs.length d)) 5 (.int .i64 (i : Int))) _
  refine W.seq ?_
  refine W.seq ?_
  refine W.region ?_
  refine L.v (o_move (v := (.int .i64 (i : Int))) rfl) ?_
  refine L.v (o_move (v := (.slice p xs.length c)) rfl) ?_
  refine L.v (o_len (p := p) (n := xs.length) (c := c) Try.underlying24 rfl) ?_
  refine L.v (o_ilss (a := (i : Int)) (b := (xs.length : Int)) rfl rfl rfl) ?_
  refine L.nil ?_
  refine W.cond (b := decide (((i : Int) : Int) < (xs.length : Int))) rfl (fun q3 => ?_) (fun q3 => ?_)
  ·
    have a4 : ((i : Int) : Int) < (xs.length : Int) := of_decide_eq_true q3
    refine W.skip ?_
    refine W.seq ?_
    refine W.block ?_
    refine W.seq ?_
    obtain ⟨b5, o6, rfl, _⟩ := hs.elem i (by omega) 0
    obtain ⟨b7, o8, rfl, _⟩ := hq.elem i (by omega) 0
    refine W.draw [true, true, true, true, true, true, true, true, true, true, true, true] (fun s => s = σ) (by kernel_rfl) (by kernel_rfl) ?_
    refine DL.v (fun _ hD => by cases hD; exact o_move (v := (.slice (some ⟨b5, o6, none⟩) xs.length c)) rfl) ?_
    refine DL.v (fun _ hD => by cases hD; exact o_move (v := (.int .i64 (i : Int))) rfl) ?_
    refine DL.v (fun _ hD => by cases hD; exact o_indexAddr (b := b5) (off := o6) (n := xs.length) (c := c) i Try.underlying24 Try.sizeOf56 rfl rfl (by omega)) ?_
    refine DL.v (fun _ hD => by cases hD; exact o_load (b := b5) (off := o6 + i * 1) (v := (.float .f32 (xs.getD i 0))) Try.isAgg56 rfl (Rds.fst (Sl.at hs i (by omega) 0)) rfl) ?_
    refine DL.v (fun _ hD => by cases hD; exact o_cvFF (s := .f32) (d := .f64) (a := xs.getD i 0) (by rw [Try.underlying56]; rfl) Try.underlying60 rfl (okw (xs.getD i 0))) ?_
    refine DL.v (fun _ hD => by cases hD; exact o_move (v := (.slice (some ⟨b7, o8, none⟩) xs.length d)) rfl) ?_
    refine DL.v (fun _ hD => by cases hD; exact o_move (v := (.int .i64 (i : Int))) rfl) ?_
    refine DL.v (fun _ hD => by cases hD; exact o_indexAddr (b := b7) (off := o8) (n := xs.length) (c := d) i Try.underlying24 Try.sizeOf56 rfl rfl (by omega)) ?_
    refine DL.v (fun _ hD => by cases hD; exact o_load (b := b7) (off := o8 + i * 1) (v := (.float .f32 (xs.getD i 0))) Try.isAgg56 rfl (Rds.fst (Sl.at hq i (by omega) 0)) rfl) ?_
    refine DL.v (fun _ hD => by cases hD; exact o_cvFF (s := .f32) (d := .f64) (a := xs.getD i 0) (by rw [Try.underlying56]; rfl) Try.underlying60 rfl (okw (xs.getD i 0))) ?_
    refine DL.v (v := (.bool true)) (fun _ hD => by cases hD; exact op_call [(.float .f64 (cvt .f32 .f64 (xs.getD i 0))), (.float .f64 (cvt .f32 .f64 (xs.getD i 0)))] Try.call44 rfl (sameFloat_c (cvt .f32 .f64 (xs.getD i 0)))) ?_
    refine DL.v (fun _ hD => by cases hD; exact o_not (b := true) (c := false) rfl rfl) ?_
    refine DL.nil rfl ?_
    refine W.condF (b := false) rfl rfl ?_
    refine W.skip ?_
    refine W.region ?_
    refine L.v (o_move (v := (.int .i64 (i : Int))) rfl) ?_
    refine L.v (o_iadd (a := (i : Int)) (b := 1) (c := ((i + 1 : Nat) : Int)) rfl rfl (by rw [IntWalk.i64_in _ (by omega)]; try omega)) ?_
    refine L.v (o_assign (v := (.int .i64 (((i + 1 : Nat) : Int)))) rfl) ?_
    refine L.nil ?_
    exact ⟨_, (by omega), i + 1, rfl, (by omega), ⟨rfl, rfl, rfl, trivial⟩, rfl⟩
  ·
    have a9 : ¬ (((i : Int) : Int) < (xs.length : Int)) := of_decide_eq_false q3
    refine W.exit ?_
    refine W.seq ?_
    refine W.region ?_
    refine L.v (o_assign (v := (.bool true)) rfl) ?_
    refine L.nil ?_
    refine W.ret ?_
    exact RetK.one σ (.bool true) rfl rfl (Ext.refl _) ⟨by first | rfl | (exfalso; omega) | (exact absurd rfl (by assumption)), rfl⟩

theorem withinI {w0 : World} {σ : Sg} (n lo hi : Int) :
    FnV Try.prog w0 41 [(.int .i64 n), (.int .i64 lo), (.int .i64 hi)] σ (.bool (decide (lo ≤ n ∧ n ≤ hi))) := by
  unfold FnV
  refine Fn.of_W 15 Try.func41 rfl Try.ntmps41 rfl ?_
  refine W.seq ?_
  refine W.region ?_
  refine L.v (o_assign (v := (.bool false)) rfl) ?_
  refine L.nil ?_
  refine W.seq ?_
  refine W.region ?_
  refine L.v (o_move (v := (.int .i64 lo)) rfl) ?_
  refine L.v (o_move (v := (.int .i64 n)) rfl) ?_
  refine L.v (o_ileq (a := lo) (b := n) rfl rfl rfl) ?_
  refine L.v (o_move (v := (.bool (decide ((lo : Int) ≤ n)))) rfl) ?_
  rcases Bool.eq_false_or_eq_true (decide ((lo : Int) ≤ n)) with q1 | q1
  ·
    have a2 : (lo : Int) ≤ n := of_decide_eq_true q1
    refine L.gv (j := 3) (d₁ := 10) (b := decide ((lo : Int) ≤ n)) rfl rfl rfl q1 (o_move (v := (.int .i64 n)) rfl) ?_
    refine L.gv (j := 3) (d₁ := 10) (b := decide ((lo : Int) ≤ n)) rfl rfl rfl q1 (o_move (v := (.int .i64 hi)) rfl) ?_
    refine L.gv (j := 3) (d₁ := 10) (b := decide ((lo : Int) ≤ n)) rfl rfl rfl q1 (o_ileq (a := n) (b := hi) rfl rfl rfl) ?_
    refine L.v (o_pickT (b := decide ((lo : Int) ≤ n)) (v := (.bool (decide ((n : Int) ≤ hi)))) rfl q1 rfl) ?_
    refine L.v (o_assign (v := (.bool (decide ((n : Int) ≤ hi)))) rfl) ?_
    refine L.nil ?_
    refine W.ret ?_
    exact RetK.one σ (.bool (decide ((n : Int) ≤ hi))) rfl rfl (Ext.refl _) ⟨by first | rfl | (congr 1; exact decide_eq_decide.2 (by omega)) | (congr 1; exact (decide_eq_false (by omega)).symm) | (congr 1; exact (decide_eq_true (by omega)).symm), rfl⟩
  ·
    have a3 : ¬ ((lo : Int) ≤ n) := of_decide_eq_false q1
    refine L.gF (j := 3) (d₁ := 10) (b := decide ((lo : Int) ≤ n)) rfl rfl rfl q1 ?_
    refine L.gF (j := 3) (d₁ := 10) (b := decide ((lo : Int) ≤ n)) rfl rfl rfl q1 ?_
    refine L.gF (j := 3) (d₁ := 10) (b := decide ((lo : Int) ≤ n)) rfl rfl rfl q1 ?_
    refine L.v (o_pickF (b := decide ((lo : Int) ≤ n)) (v := (.bool false)) rfl q1 rfl) ?_
    refine L.v (o_assign (v := (.bool false)) rfl) ?_
    refine L.nil ?_
    refine W.ret ?_
    exact RetK.one σ (.bool false) rfl rfl (Ext.refl _) ⟨by first | rfl | (congr 1; exact decide_eq_decide.2 (by omega)) | (congr 1; exact (decide_eq_false (by omega)).symm) | (congr 1; exact (decide_eq_true (by omega)).symm), rfl⟩

theorem withinS {w0 : World} {σ : Sg} (n lo hi : Int) :
    FnV Try.prog w0 38 [(.int .i64 n), (.int .i64 lo), (.int .i64 hi)] σ (.bool (decide (lo ≤ n ∧ n ≤ hi))) := by
  unfold FnV
  refine Fn.of_W 15 Try.func38 rfl Try.ntmps38 rfl ?_
  refine W.seq ?_
  refine W.region ?_
  refine L.v (o_assign (v := (.bool false)) rfl) ?_
  refine L.nil ?_
  refine W.seq ?_
  refine W.region ?_
  refine L.v (o_move (v := (.int .i64 n)) rfl) ?_
  refine L.v (o_move (v := (.int .i64 lo)) rfl) ?_
  refine L.v (o_igeq (a := n) (b := lo) rfl rfl rfl) ?_
  refine L.v (o_move (v := (.bool (decide ((lo : Int) ≤ n)))) rfl) ?_
  rcases Bool.eq_false_or_eq_true (decide ((lo : Int) ≤ n)) with q1 | q1
  ·
    have a2 : (lo : Int) ≤ n := of_decide_eq_true q1
    refine L.gv (j := 3) (d₁ := 10) (b := decide ((lo : Int) ≤ n)) rfl rfl rfl q1 (o_move (v := (.int .i64 n)) rfl) ?_
    refine L.gv (j := 3) (d₁ := 10) (b := decide ((lo : Int) ≤ n)) rfl rfl rfl q1 (o_move (v := (.int .i64 hi)) rfl) ?_
    refine L.gv (j := 3) (d₁ := 10) (b := decide ((lo : Int) ≤ n)) rfl rfl rfl q1 (o_ileq (a := n) (b := hi) rfl rfl rfl) ?_
    refine L.v (o_pickT (b := decide ((lo : Int) ≤ n)) (v := (.bool (decide ((n : Int) ≤ hi)))) rfl q1 rfl) ?_
    refine L.v (o_assign (v := (.bool (decide ((n : Int) ≤ hi)))) rfl) ?_
    refine L.nil ?_
    refine W.ret ?_
    exact RetK.one σ (.bool (decide ((n : Int) ≤ hi))) rfl rfl (Ext.refl _) ⟨by first | rfl | (congr 1; exact decide_eq_decide.2 (by omega)) | (congr 1; exact (decide_eq_false (by omega)).symm) | (congr 1; exact (decide_eq_true (by omega)).symm), rfl⟩
  ·
    have a3 : ¬ ((lo : Int) ≤ n) := of_decide_eq_false q1
    refine L.gF (j := 3) (d₁ := 10) (b := decide ((lo : Int) ≤ n)) rfl rfl rfl q1 ?_
    refine L.gF (j := 3) (d₁ := 10) (b := decide ((lo : Int) ≤ n)) rfl rfl rfl q1 ?_
    refine L.gF (j := 3) (d₁ := 10) (b := decide ((lo : Int) ≤ n)) rfl rfl rfl q1 ?_
    refine L.v (o_pickF (b := decide ((lo : Int) ≤ n)) (v := (.bool false)) rfl q1 rfl) ?_
    refine L.v (o_assign (v := (.bool false)) rfl) ?_
    refine L.nil ?_
    refine W.ret ?_
    exact RetK.one σ (.bool false) rfl rfl (Ext.refl _) ⟨by first | rfl | (congr 1; exact decide_eq_decide.2 (by omega)) | (congr 1; exact (decide_eq_false (by omega)).symm) | (congr 1; exact (decide_eq_true (by omega)).symm), rfl⟩

theorem markB {w0 : World} {σ : Sg} (b e n c : Nat) (cs : List Value) (k : Int) (hb : σ b = some (e, cs)) (hw : w0.heap.size ≤ b) (hn : n ≤ cs.length) (hm : n ≤ 1048576) (hk : 0 ≤ k ∧ k ≤ 1099511627776) :
    Fn Try.prog w0 15 [(.slice (some ⟨b, 0, none⟩) n c), (.int .i64 k)] σ (fun u s => u = .int .i64 (k + n) ∧ s = sg σ b (e, mkc (mark32 k) cs n)) := by
  refine Fn.of_W 20 Try.func15 rfl Try.ntmps15 rfl ?_
  refine W.seq ?_
  refine W.region ?_
  refine L.v (o_assign (v := (.int .i64 0)) rfl) ?_
  refine L.nil ?_
  refine W.seq ?_
  refine W.seq ?_
  refine W.region ?_
  refine L.v (o_assign (v := (.int .i64 0)) rfl) ?_
  refine L.nil ?_
  refine W.block ?_
  refine W.loop (fun nn tt ss => ∃ (i : Nat), nn = n - i ∧ (i ≤ n) ∧ FrOk tt [(0, (.slice (some ⟨b, 0, none⟩) n c)), (1, (.int .i64 (k + (i : Int)))), (5, (.int .i64 (i : Int)))] ∧ sg σ b (e, mkc (mark32 k) cs i) = ss) _ ⟨0, rfl, (by omega), ⟨rfl, (by show Value.int .i64 k = _; simp), rfl, trivial⟩, sg_same hb⟩ ?_
  rintro _ t1 _ ⟨i, rfl, hi, f2, rfl⟩
  rw [← frame_ok f2]
  show W _ _ _ _ _ (upd (upd (upd t1 0 (.slice (some ⟨b, 0, none⟩) n c)) 1 (.int .i64 (k + (i : Int)))) 5 (.int .i64 (i : Int))) _
  refine W.seq ?_
  refine W.seq ?_
  refine W.region ?_
  refine L.v (o_move (v := (.int .i64 (i : Int))) rfl) ?_
  refine L.v (o_move (v := (.slice (some ⟨b, 0, none⟩) n c)) rfl) ?_
  refine L.v (o_len (p := (some ⟨b, 0, none⟩)) (n := n) (c := c) Try.underlying24 rfl) ?_
  refine L.v (o_ilss (a := (i : Int)) (b := (n : Int)) rfl rfl rfl) ?_
  refine L.nil ?_
  refine W.cond (b := decide (((i : Int) : Int) < (n : Int))) rfl (fun q3 => ?_) (fun q3 => ?_)
  ·
    have a4 : ((i : Int) : Int) < (n : Int) := of_decide_eq_true q3
    refine W.skip ?_
    refine W.seq ?_
    refine W.block ?_
    refine W.seq ?_
    refine W.region ?_
    refine L.v (o_move (v := (.slice (some ⟨b, 0, none⟩) n c)) rfl) ?_
    refine L.v (o_move (v := (.int .i64 (i : Int))) rfl) ?_
    refine L.v (o_move (v := (.int .i64 (k + (i : Int)))) rfl) ?_
    refine L.v (o_cvIF (a := k + (i : Int)) (by rw [Try.underlying3]; rfl) Try.underlying56 rfl) ?_
    refine L.v (o_indexAddr (b := b) (off := 0) (n := n) (c := c) i Try.underlying24 Try.sizeOf56 rfl rfl (by omega)) ?_
    refine L.cons0 (o_store (b := b) (off := 0 + i * 1) (v := (.float .f32 (FloatKind.nearest .f32 (k + (i : Int))))) Try.sizeOf56 rfl rfl rfl (sg_eq _ _ _) (by rw [mkc_length]; omega) hw) ?_
    rintro _ _ ⟨rfl, rfl⟩
    rw [sg_sg, show (mkc (mark32 k) cs i).set (0 + i * 1) (.float .f32 (FloatKind.nearest .f32 (k + (i : Int)))) = mkc (mark32 k) cs (i + 1) by rw [show 0 + i * 1 = i by omega]; rfl]
    refine L.nil ?_
    refine W.region ?_
    refine L.v (o_move (v := (.int .i64 (k + (i : Int)))) rfl) ?_
    refine L.v (o_iadd (a := k + (i : Int)) (b := 1) (c := k + ((i + 1 : Nat) : Int)) rfl rfl (by rw [IntWalk.i64_in _ (by omega)]; try (push_cast; omega))) ?_
    refine L.v (o_assign (v := (.int .i64 (k + ((i + 1 : Nat) : Int)))) rfl) ?_
    refine L.nil ?_
    refine W.region ?_
    refine L.v (o_move (v := (.int .i64 (i : Int))) rfl) ?_
    refine L.v (o_iadd (a := (i : Int)) (b := 1) (c := ((i + 1 : Nat) : Int)) rfl rfl (by rw [IntWalk.i64_in _ (by omega)]; try (push_cast; omega))) ?_
    refine L.v (o_assign (v := (.int .i64 (((i + 1 : Nat) : Int)))) rfl) ?_
    refine L.nil ?_
    exact ⟨_, (by omega), i + 1, rfl, (by omega), ⟨rfl, rfl, rfl, trivial⟩, rfl⟩
  ·
    have a5 : ¬ (((i : Int) : Int) < (n : Int)) := of_decide_eq_false q3
    refine W.exit ?_
    refine W.seq ?_
    refine W.region ?_
    refine L.v (o_move (v := (.int .i64 (k + (i : Int)))) rfl) ?_
    refine L.v (o_assign (v := (.int .i64 (k + (i : Int)))) rfl) ?_
    refine L.nil ?_
    refine W.ret ?_
    obtain rfl : i = n := by omega
    exact RetK.one _ (.int .i64 (k + (i : Int))) rfl rfl (Ext.refl _) ⟨rfl, rfl⟩

theorem markE {w0 : World} {σ : Sg} (p : Option Addr) (c : Nat) (k : Int) :
    Fn Try.prog w0 15 [(.slice p 0 c), (.int .i64 k)] σ (fun u s => u = .int .i64 (k + (0 : Nat)) ∧ s = σ) := by
  refine Fn.of_W 20 Try.func15 rfl Try.ntmps15 rfl ?_
  refine W.seq ?_
  refine W.region ?_
  refine L.v (o_assign (v := (.int .i64 0)) rfl) ?_
  refine L.nil ?_
  refine W.seq ?_
  refine W.seq ?_
  refine W.region ?_
  refine L.v (o_assign (v := (.int .i64 0)) rfl) ?_
  refine L.nil ?_
  refine W.block ?_
  refine W.loop (fun nn tt ss => ∃ (i : Nat), nn = 0 ∧ (i = 0) ∧ FrOk tt [(0, (.slice p 0 c)), (1, (.int .i64 k)), (5, (.int .i64 (i : Int)))] ∧ σ = ss) _ ⟨0, rfl, (by omega), ⟨rfl, rfl, rfl, trivial⟩, rfl⟩ ?_
  rintro _ t1 _ ⟨i, rfl, hi, f2, rfl⟩
  rw [← frame_ok f2]
  show W _ _ _ _ _ (upd (upd (upd t1 0 (.slice p 0 c)) 1 (.int .i64 k)) 5 (.int .i64 (i : Int))) _
  refine W.seq ?_
  refine W.seq ?_
  refine W.region ?_
  refine L.v (o_move (v := (.int .i64 (i : Int))) rfl) ?_
  refine L.v (o_move (v := (.slice p 0 c)) rfl) ?_
  refine L.v (o_len (p := p) (n := 0) (c := c) Try.underlying24 rfl) ?_
  refine L.v (o_ilss (a := (i : Int)) (b := 0) rfl rfl rfl) ?_
  refine L.nil ?_
  refine W.cond (b := decide (((i : Int) : Int) < 0)) rfl (fun q3 => ?_) (fun q3 => ?_)
  ·
    have a4 : ((i : Int) : Int) < 0 := of_decide_eq_true q3
    exact absurd (of_decide_eq_true q3) (by omega)
  ·
    have a5 : ¬ (((i : Int) : Int) < 0) := of_decide_eq_false q3
    refine W.exit ?_
    refine W.seq ?_
    refine W.region ?_
    refine L.v (o_move (v := (.int .i64 k)) rfl) ?_
    refine L.v (o_assign (v := (.int .i64 k)) rfl) ?_
    refine L.nil ?_
    refine W.ret ?_
    exact RetK.one _ (.int .i64 k) rfl rfl (Ext.refl _) ⟨by simp, rfl⟩

theorem markF {w0 : World} {σ : Sg} (p : Option Addr) (n c : Nat) (k : Int) (ho : Mut w0 σ n p) (hm : n ≤ 1048576) (hk : 0 ≤ k ∧ k ≤ 1099511627776) :
    Fn Try.prog w0 15 [.slice p n c, .int .i64 k] σ (fun u s => u = .int .i64 (k + n) ∧ Mkd σ s n p ∧ Sl s 1 p (marks32 k n)) := by
  by_cases h0 : n = 0
  · subst h0
    exact (markE p c k).mono fun u s ⟨h1, h2⟩ => ⟨h1, .inl ⟨rfl, h2⟩, .inl rfl⟩
  · rcases ho with ho | ⟨b, e, cs, rfl, hw, hb, hl⟩
    · exact absurd ho h0
    · refine (markB b e n c cs k hb hw hl hm hk).mono fun u s ⟨h1, h2⟩ => ⟨h1, .inr ⟨h0, b, rfl, ?_⟩, ?_⟩
      · rw [h2]; exact But.sg
      · exact Sl.of_mkc (by rw [h2]; exact sg_eq _ _ _) hl

theorem heldF {w0 : World} {σ : Sg} (p : Option Addr) (n c : Nat) (k : Int) (hs : Sl σ 1 p (marks32 k n)) (hm : n ≤ 1048576) (hk : 0 ≤ k ∧ k ≤ 1099511627776) :
    FnV Try.prog w0 16 [(.slice p n c), (.int .i64 k)] σ (.int .i64 (k + n)) := by
  unfold FnV
  refine Fn.of_W 22 Try.func16 rfl Try.ntmps16 rfl ?_
  refine W.seq ?_
  refine W.region ?_
  refine L.v (o_assign (v := (.int .i64 0)) rfl) ?_
  refine L.nil ?_
  refine W.seq ?_
  refine W.seq ?_
  refine W.region ?_
  refine L.v (o_assign (v := (.int .i64 0)) rfl) ?_
  refine L.nil ?_
  refine W.block ?_
  refine W.loop (fun nn tt ss => ∃ (i : Nat), nn = n - i ∧ (i ≤ n) ∧ FrOk tt [(0, (.slice p n c)), (1, (.int .i64 (k + (i : Int)))), (5, (.int .i64 (i : Int)))] ∧ σ = ss) _ ⟨0, rfl, (by omega), ⟨rfl, (by show Value.int .i64 k = _; simp), rfl, trivial⟩, rfl⟩ ?_
  rintro _ t1 _ ⟨i, rfl, hi, f2, rfl⟩
  rw [← frame_ok f2]
  show W _ _ _ _ _ (upd (upd (upd t1 0 (.slice p n c)) 1 (.int .i64 (k + (i : Int)))) 5 (.int .i64 (i : Int))) _
  refine W.seq ?_
  refine W.seq ?_
  refine W.region ?_
  refine L.v (o_move (v := (.int .i64 (i : Int))) rfl) ?_
  refine L.v (o_move (v := (.slice p n c)) rfl) ?_
  refine L.v (o_len (p := p) (n := n) (c := c) Try.underlying24 rfl) ?_
  refine L.v (o_ilss (a := (i : Int)) (b := (n : Int)) rfl rfl rfl) ?_
  refine L.nil ?_
  refine W.cond (b := decide (((i : Int) : Int) < (n : Int))) rfl (fun q3 => ?_) (fun q3 => ?_)
  ·
    have a4 : ((i : Int) : Int) < (n : Int) := of_decide_eq_true q3
    refine W.skip ?_
    refine W.seq ?_
    refine W.block ?_
    refine W.seq ?_
    refine W.seq ?_
    obtain ⟨b5, o6, rfl, _⟩ := hs.get (marks32_get (k := k) (n := n) (i := i) (by omega))
    refine W.region ?_
    refine L.v (o_move (v := (.slice (some ⟨b5, o6, none⟩) n c)) rfl) ?_
    refine L.v (o_move (v := (.int .i64 (i : Int))) rfl) ?_
    refine L.v (o_indexAddr (b := b5) (off := o6) (n := n) (c := c) i Try.underlying24 Try.sizeOf56 rfl rfl (by omega)) ?_
    refine L.v (o_load (b := b5) (off := o6 + i * 1) (v := (.float .f32 (FloatKind.nearest .f32 (k + (i : Int))))) Try.isAgg56 rfl (hs.marks (by omega)) rfl) ?_
    refine L.v (o_move (v := (.int .i64 (k + (i : Int)))) rfl) ?_
    refine L.v (o_cvIF (a := k + (i : Int)) (by rw [Try.underlying3]; rfl) Try.underlying56 rfl) ?_
    refine L.v (o_fcmp (k := .f32) (a := FloatKind.nearest .f32 (k + (i : Int))) (b := FloatKind.nearest .f32 (k + (i : Int))) rfl rfl rfl rfl) ?_
    refine L.nil ?_
    refine W.condF (b := fcmp .neq .f32 (FloatKind.nearest .f32 (k + (i : Int))) (FloatKind.nearest .f32 (k + (i : Int)))) rfl (fcmp_neq_self (k := .f32) (a := FloatKind.nearest .f32 (k + (i : Int))) (nearest_num .f32 (k + (i : Int)))) ?_
    refine W.skip ?_
    refine W.region ?_
    refine L.v (o_move (v := (.int .i64 (k + (i : Int)))) rfl) ?_
    refine L.v (o_iadd (a := k + (i : Int)) (b := 1) (c := k + ((i + 1 : Nat) : Int)) rfl rfl (by rw [IntWalk.i64_in _ (by omega)]; try (push_cast; omega))) ?_
    refine L.v (o_assign (v := (.int .i64 (k + ((i + 1 : Nat) : Int)))) rfl) ?_
    refine L.nil ?_
    refine W.region ?_
    refine L.v (o_move (v := (.int .i64 (i : Int))) rfl) ?_
    refine L.v (o_iadd (a := (i : Int)) (b := 1) (c := ((i + 1 : Nat) : Int)) rfl rfl (by rw [IntWalk.i64_in _ (by omega)]; try (push_cast; omega))) ?_
    refine L.v (o_assign (v := (.int .i64 (((i + 1 : Nat) : Int)))) rfl) ?_
    refine L.nil ?_
    exact ⟨_, (by omega), i + 1, rfl, (by omega), ⟨rfl, rfl, rfl, trivial⟩, rfl⟩
  ·
    have a7 : ¬ (((i : Int) : Int) < (n : Int)) := of_decide_eq_false q3
    refine W.exit ?_
    refine W.seq ?_
    refine W.region ?_
    refine L.v (o_move (v := (.int .i64 (k + (i : Int)))) rfl) ?_
    refine L.v (o_assign (v := (.int .i64 (k + (i : Int)))) rfl) ?_
    refine L.nil ?_
    refine W.ret ?_
    obtain rfl : i = n := by omega
    exact RetK.one _ (.int .i64 (k + (i : Int))) rfl rfl (Ext.refl _) ⟨rfl, rfl⟩

theorem toGrid_c {w0 : World} {σ : Sg} (gx gy : Int) :
    FnV Try.prog w0 11 [(.agg #[(.int .i64 gx), (.int .i64 gy)])] σ (.agg #[.int .i64 gx, .int .i64 gy]) := by
  unfold FnV
  refine Fn.of_W 11 Try.func11 rfl Try.ntmps11 rfl ?_
  refine W.seq ?_
  refine W.region ?_
  refine L.cons (o_box (v := (.agg #[(.int .i64 gx), (.int .i64 gy)])) rfl rfl [(.int .i64 gx), (.int .i64 gy)] rfl) ?_
  rintro _ _ ⟨b1, hf2, hw3, rfl, rfl⟩
  have fz7 := Ext.none (Ext.refl _) hf2
  have hb6 : (sg σ b1 (23, [(.int .i64 gx), (.int .i64 gy)])) b1 = some (23, [(.int .i64 gx), (.int .i64 gy)]) := sg_eq _ _ _
  have hx5 : Ext σ (sg σ b1 (23, [(.int .i64 gx), (.int .i64 gy)])) := (Ext.refl _).sg hf2
  have ehx5 := Ext.trans (Ext.refl _) hx5
  generalize hgs4 : sg σ b1 (23, [(.int .i64 gx), (.int .i64 gy)]) = s4 at *
  clear hgs4
  refine L.cons (o_alloc Try.zeroValue27 [(.int .i64 0), (.int .i64 0)] rfl) ?_
  rintro _ _ ⟨b8, hf9, hw10, rfl, rfl⟩
  have fz14 := Ext.none ehx5 hf9
  have ne15 := ne_of_free hb6 hf9
  have hb13 : (sg s4 b8 (27, [(.int .i64 0), (.int .i64 0)])) b8 = some (27, [(.int .i64 0), (.int .i64 0)]) := sg_eq _ _ _
  have hx12 : Ext s4 (sg s4 b8 (27, [(.int .i64 0), (.int .i64 0)])) := (Ext.refl _).sg hf9
  have hb16 := hx12 _ _ hb6
  have ehx12 := Ext.trans ehx5 hx12
  generalize hgs11 : sg s4 b8 (27, [(.int .i64 0), (.int .i64 0)]) = s11 at *
  clear hgs11
  refine L.nil ?_
  refine W.seq ?_
  refine W.region ?_
  refine L.cons (o_alloc Try.zeroValue27 [(.int .i64 0), (.int .i64 0)] rfl) ?_
  rintro _ _ ⟨b17, hf18, hw19, rfl, rfl⟩
  have fz23 := Ext.none ehx12 hf18
  have ne24 := ne_of_free hb16 hf18
  have ne25 := ne_of_free hb13 hf18
  have hb22 : (sg s11 b17 (27, [(.int .i64 0), (.int .i64 0)])) b17 = some (27, [(.int .i64 0), (.int .i64 0)]) := sg_eq _ _ _
  have hx21 : Ext s11 (sg s11 b17 (27, [(.int .i64 0), (.int .i64 0)])) := (Ext.refl _).sg hf18
  have hb26 := hx21 _ _ hb16
  have hb27 := hx21 _ _ hb13
  have ehx21 := Ext.trans ehx12 hx21
  generalize hgs20 : sg s11 b17 (27, [(.int .i64 0), (.int .i64 0)]) = s20 at *
  clear hgs20
  refine L.nil ?_
  refine W.seq ?_
  refine W.region ?_
  refine L.v (o_fieldAddr (b := b1) (off := 0) (o := 0) (run_fieldAt (f := 0) (fld := { name := "Wide", type := 2, offset := 0, embedded := false, tag := "", pkgPath := "", byteOffset := 0 }) Try.underlying23 rfl Try.sizeOf2 (Nat.succ_ne_zero _)) rfl) ?_
  refine L.v (o_load (b := b1) (off := 0 + 0) (v := (.int .i64 gx)) Try.isAgg2 rfl (Rd.of hb26 rfl) rfl) ?_
  refine L.v (o_fieldAddr (b := b17) (off := 0) (o := 0) (run_fieldAt (f := 0) (fld := { name := "Wide", type := 2, offset := 0, embedded := false, tag := "", pkgPath := "", byteOffset := 0 }) Try.underlying27 rfl Try.sizeOf2 (Nat.succ_ne_zero _)) rfl) ?_
  refine L.cons0 (o_store (b := b17) (off := 0 + 0) (v := (.int .i64 gx)) Try.sizeOf2 rfl rfl rfl hb22 (by show _ < 2; decide) hw19) ?_
  rintro _ _ ⟨rfl, rfl⟩
  show L _ _ _ _ _ _ _ (sg s20 b17 (27, [(.int .i64 gx), (.int .i64 0)]))
  have e30 := Ext.sg (x := (27, [(.int .i64 gx), (.int .i64 0)])) ehx21 fz23
  generalize hgs29 : sg s20 b17 (27, [(.int .i64 gx), (.int .i64 0)]) = s29 at *
  have hb28 := congrFun hgs29 b17
  rw [sg_eq] at hb28
  replace hb28 : s29 b17 = some (27, [(.int .i64 gx), (.int .i64 0)]) := hb28.symm
  have hb31 := congrFun hgs29 b1
  rw [sg_other hb26 ne24] at hb31
  replace hb31 := hb31.symm
  have hb32 := congrFun hgs29 b8
  rw [sg_other hb27 ne25] at hb32
  replace hb32 := hb32.symm
  clear hgs29
  refine L.nil ?_
  refine W.seq ?_
  refine W.region ?_
  refine L.v (o_fieldAddr (b := b1) (off := 0) (o := 1) (run_fieldAt (f := 1) (fld := { name := "High", type := 2, offset := 1, embedded := false, tag := "", pkgPath := "", byteOffset := 8 }) Try.underlying23 rfl Try.sizeOf2 (Nat.succ_ne_zero _)) rfl) ?_
  refine L.v (o_load (b := b1) (off := 0 + 1) (v := (.int .i64 gy)) Try.isAgg2 rfl (Rd.of hb31 rfl) rfl) ?_
  refine L.v (o_fieldAddr (b := b17) (off := 0) (o := 1) (run_fieldAt (f := 1) (fld := { name := "High", type := 2, offset := 1, embedded := false, tag := "", pkgPath := "", byteOffset := 8 }) Try.underlying27 rfl Try.sizeOf2 (Nat.succ_ne_zero _)) rfl) ?_
  refine L.cons0 (o_store (b := b17) (off := 0 + 1) (v := (.int .i64 gy)) Try.sizeOf2 rfl rfl rfl hb28 (by show _ < 2; decide) hw19) ?_
  rintro _ _ ⟨rfl, rfl⟩
  show L _ _ _ _ _ _ _ (sg s29 b17 (27, [(.int .i64 gx), (.int .i64 gy)]))
  have e35 := Ext.sg (x := (27, [(.int .i64 gx), (.int .i64 gy)])) e30 fz23
  generalize hgs34 : sg s29 b17 (27, [(.int .i64 gx), (.int .i64 gy)]) = s34 at *
  have hb33 := congrFun hgs34 b17
  rw [sg_eq] at hb33
  replace hb33 : s34 b17 = some (27, [(.int .i64 gx), (.int .i64 gy)]) := hb33.symm
  have hb36 := congrFun hgs34 b1
  rw [sg_other hb31 ne24] at hb36
  replace hb36 := hb36.symm
  have hb37 := congrFun hgs34 b8
  rw [sg_other hb32 ne25] at hb37
  replace hb37 := hb37.symm
  clear hgs34
  refine L.nil ?_
  refine W.seq ?_
  refine W.region ?_
  refine L.v (o_loads (b := b17) (off := 0) (vs := [(.int .i64 gx), (.int .i64 gy)]) Try.isAgg27 Try.sizeOf27 rfl rfl (Rds.of hb33 (by intro j v hj; simpa using hj))) ?_
  refine L.cons0 (o_stores (b := b8) (off := 0) (vs := [(.int .i64 gx), (.int .i64 gy)]) Try.sizeOf27 rfl rfl rfl (by simp [Value.oneCell']) hb37 (by show _ ≤ 2; decide) hw10) ?_
  rintro _ _ ⟨rfl, rfl⟩
  show L _ _ _ _ _ _ _ (sg s34 b8 (27, [(.int .i64 gx), (.int .i64 gy)]))
  have e40 := Ext.sg (x := (27, [(.int .i64 gx), (.int .i64 gy)])) e35 fz14
  generalize hgs39 : sg s34 b8 (27, [(.int .i64 gx), (.int .i64 gy)]) = s39 at *
  have hb38 := congrFun hgs39 b8
  rw [sg_eq] at hb38
  replace hb38 : s39 b8 = some (27, [(.int .i64 gx), (.int .i64 gy)]) := hb38.symm
  have hb41 := congrFun hgs39 b1
  rw [sg_other hb36 ne15] at hb41
  replace hb41 := hb41.symm
  have hb42 := congrFun hgs39 b17
  rw [sg_other hb33 (Ne.symm ne25)] at hb42
  replace hb42 := hb42.symm
  clear hgs39
  refine L.nil ?_
  refine W.ret ?_
  exact RetK.cell σ [(.int .i64 gx), (.int .i64 gy)] Try.isAgg27 Try.sizeOf27 rfl rfl rfl (Rds.of hb38 (by intro j v hj; simpa using hj)) e40 ⟨rfl, rfl⟩

theorem specIs {w0 : World} {σ : Sg} (b e : Nat) (gx gy : Int) (hb : σ b = some (e, [.int .i64 gx, .int .i64 gy])) :
    FnV Try.prog w0 45 [(.pointer (some ⟨b, 0, none⟩))] σ (.bool (decide ((4 ≤ gx ∧ gx ≤ 16) ∧ 4 ≤ gy ∧ gy ≤ 16))) := by
  unfold FnV
  refine Fn.of_W 15 Try.func45 rfl Try.ntmps45 rfl ?_
  refine W.seq ?_
  refine W.region ?_
  refine L.v (o_assign (v := (.bool false)) rfl) ?_
  refine L.nil ?_
  refine W.seq ?_
  refine W.region ?_
  refine L.v (o_move (v := (.pointer (some ⟨b, 0, none⟩))) rfl) ?_
  refine L.v (o_nilCheck (p := ⟨b, 0, none⟩) rfl) ?_
  refine L.v (o_fieldAddr (b := b) (off := 0) (o := 0) (run_fieldAt (f := 0) (fld := { name := "Wide", type := 2, offset := 0, embedded := false, tag := "", pkgPath := "", byteOffset := 0 }) Try.underlying27 rfl Try.sizeOf2 (Nat.succ_ne_zero _)) rfl) ?_
  refine L.v (o_load (b := b) (off := 0 + 0) (v := (.int .i64 gx)) Try.isAgg2 rfl (Rd.of hb rfl) rfl) ?_
  refine L.v (v := (.bool (decide ((4 : Int) ≤ gx ∧ (gx : Int) ≤ 16)))) (op_call [(.int .i64 gx), (.int .i64 4), (.int .i64 16)] Try.call38 rfl (withinS gx 4 16)) ?_
  refine L.v (o_move (v := (.bool (decide ((4 : Int) ≤ gx ∧ (gx : Int) ≤ 16)))) rfl) ?_
  rcases Bool.eq_false_or_eq_true (decide ((4 : Int) ≤ gx ∧ (gx : Int) ≤ 16)) with q1 | q1
  ·
    have a2 : (4 : Int) ≤ gx ∧ (gx : Int) ≤ 16 := of_decide_eq_true q1
    refine L.gv (j := 5) (d₁ := 8) (b := decide ((4 : Int) ≤ gx ∧ (gx : Int) ≤ 16)) rfl rfl rfl q1 (o_move (v := (.pointer (some ⟨b, 0, none⟩))) rfl) ?_
    refine L.gv (j := 5) (d₁ := 8) (b := decide ((4 : Int) ≤ gx ∧ (gx : Int) ≤ 16)) rfl rfl rfl q1 (o_nilCheck (p := ⟨b, 0, none⟩) rfl) ?_
    refine L.gv (j := 5) (d₁ := 8) (b := decide ((4 : Int) ≤ gx ∧ (gx : Int) ≤ 16)) rfl rfl rfl q1 (o_fieldAddr (b := b) (off := 0) (o := 1) (run_fieldAt (f := 1) (fld := { name := "High", type := 2, offset := 1, embedded := false, tag := "", pkgPath := "", byteOffset := 8 }) Try.underlying27 rfl Try.sizeOf2 (Nat.succ_ne_zero _)) rfl) ?_
    refine L.gv (j := 5) (d₁ := 8) (b := decide ((4 : Int) ≤ gx ∧ (gx : Int) ≤ 16)) rfl rfl rfl q1 (o_load (b := b) (off := 0 + 1) (v := (.int .i64 gy)) Try.isAgg2 rfl (Rd.of hb rfl) rfl) ?_
    refine L.gv (j := 5) (d₁ := 8) (b := decide ((4 : Int) ≤ gx ∧ (gx : Int) ≤ 16)) rfl rfl rfl q1 (v := (.bool (decide ((4 : Int) ≤ gy ∧ (gy : Int) ≤ 16)))) (op_call [(.int .i64 gy), (.int .i64 4), (.int .i64 16)] Try.call38 rfl (withinS gy 4 16)) ?_
    refine L.v (o_pickT (b := decide ((4 : Int) ≤ gx ∧ (gx : Int) ≤ 16)) (v := (.bool (decide ((4 : Int) ≤ gy ∧ (gy : Int) ≤ 16)))) rfl q1 rfl) ?_
    refine L.v (o_assign (v := (.bool (decide ((4 : Int) ≤ gy ∧ (gy : Int) ≤ 16)))) rfl) ?_
    refine L.nil ?_
    refine W.ret ?_
    exact RetK.one σ (.bool (decide ((4 : Int) ≤ gy ∧ (gy : Int) ≤ 16))) rfl rfl (Ext.refl _) ⟨by first | rfl | (congr 1; exact decide_eq_decide.2 (by omega)) | (congr 1; exact (decide_eq_false (by omega)).symm) | (congr 1; exact (decide_eq_true (by omega)).symm), rfl⟩
  ·
    have a3 : ¬ ((4 : Int) ≤ gx ∧ (gx : Int) ≤ 16) := of_decide_eq_false q1
    refine L.gF (j := 5) (d₁ := 8) (b := decide ((4 : Int) ≤ gx ∧ (gx : Int) ≤ 16)) rfl rfl rfl q1 ?_
    refine L.gF (j := 5) (d₁ := 8) (b := decide ((4 : Int) ≤ gx ∧ (gx : Int) ≤ 16)) rfl rfl rfl q1 ?_
    refine L.gF (j := 5) (d₁ := 8) (b := decide ((4 : Int) ≤ gx ∧ (gx : Int) ≤ 16)) rfl rfl rfl q1 ?_
    refine L.gF (j := 5) (d₁ := 8) (b := decide ((4 : Int) ≤ gx ∧ (gx : Int) ≤ 16)) rfl rfl rfl q1 ?_
    refine L.gF (j := 5) (d₁ := 8) (b := decide ((4 : Int) ≤ gx ∧ (gx : Int) ≤ 16)) rfl rfl rfl q1 ?_
    refine L.v (o_pickF (b := decide ((4 : Int) ≤ gx ∧ (gx : Int) ≤ 16)) (v := (.bool false)) rfl q1 rfl) ?_
    refine L.v (o_assign (v := (.bool false)) rfl) ?_
    refine L.nil ?_
    refine W.ret ?_
    exact RetK.one σ (.bool false) rfl rfl (Ext.refl _) ⟨by first | rfl | (congr 1; exact decide_eq_decide.2 (by omega)) | (congr 1; exact (decide_eq_false (by omega)).symm) | (congr 1; exact (decide_eq_true (by omega)).symm), rfl⟩

theorem implIs {w0 : World} {σ : Sg} (gx gy : Int) :
    FnV Try.prog w0 46 [(.agg #[(.int .i64 gx), (.int .i64 gy)])] σ (.bool (decide ((4 ≤ gx ∧ gx ≤ 16) ∧ 4 ≤ gy ∧ gy ≤ 16))) := by
  unfold FnV
  refine Fn.of_W 11 Try.func46 rfl Try.ntmps46 rfl ?_
  refine W.seq ?_
  refine W.region ?_
  refine L.cons (o_box (v := (.agg #[(.int .i64 gx), (.int .i64 gy)])) rfl rfl [(.int .i64 gx), (.int .i64 gy)] rfl) ?_
  rintro _ _ ⟨b1, hf2, hw3, rfl, rfl⟩
  have hb6 : (sg σ b1 (27, [(.int .i64 gx), (.int .i64 gy)])) b1 = some (27, [(.int .i64 gx), (.int .i64 gy)]) := sg_eq _ _ _
  have hx5 : Ext σ (sg σ b1 (27, [(.int .i64 gx), (.int .i64 gy)])) := (Ext.refl _).sg hf2
  have ehx5 := Ext.trans (Ext.refl _) hx5
  generalize hgs4 : sg σ b1 (27, [(.int .i64 gx), (.int .i64 gy)]) = s4 at *
  clear hgs4
  refine L.v (o_assign (v := (.bool false)) rfl) ?_
  refine L.nil ?_
  refine W.seq ?_
  refine W.region ?_
  refine L.v (o_fieldAddr (b := b1) (off := 0) (o := 0) (run_fieldAt (f := 0) (fld := { name := "Wide", type := 2, offset := 0, embedded := false, tag := "", pkgPath := "", byteOffset := 0 }) Try.underlying27 rfl Try.sizeOf2 (Nat.succ_ne_zero _)) rfl) ?_
  refine L.v (o_load (b := b1) (off := 0 + 0) (v := (.int .i64 gx)) Try.isAgg2 rfl (Rd.of hb6 rfl) rfl) ?_
  refine L.v (v := (.bool (decide ((4 : Int) ≤ gx ∧ (gx : Int) ≤ 16)))) (op_call [(.int .i64 gx), (.int .i64 4), (.int .i64 16)] Try.call41 rfl (withinI gx 4 16)) ?_
  refine L.v (o_move (v := (.bool (decide ((4 : Int) ≤ gx ∧ (gx : Int) ≤ 16)))) rfl) ?_
  rcases Bool.eq_false_or_eq_true (decide ((4 : Int) ≤ gx ∧ (gx : Int) ≤ 16)) with q7 | q7
  ·
    have a8 : (4 : Int) ≤ gx ∧ (gx : Int) ≤ 16 := of_decide_eq_true q7
    refine L.gv (j := 3) (d₁ := 6) (b := decide ((4 : Int) ≤ gx ∧ (gx : Int) ≤ 16)) rfl rfl rfl q7 (o_fieldAddr (b := b1) (off := 0) (o := 1) (run_fieldAt (f := 1) (fld := { name := "High", type := 2, offset := 1, embedded := false, tag := "", pkgPath := "", byteOffset := 8 }) Try.underlying27 rfl Try.sizeOf2 (Nat.succ_ne_zero _)) rfl) ?_
    refine L.gv (j := 3) (d₁ := 6) (b := decide ((4 : Int) ≤ gx ∧ (gx : Int) ≤ 16)) rfl rfl rfl q7 (o_load (b := b1) (off := 0 + 1) (v := (.int .i64 gy)) Try.isAgg2 rfl (Rd.of hb6 rfl) rfl) ?_
    refine L.gv (j := 3) (d₁ := 6) (b := decide ((4 : Int) ≤ gx ∧ (gx : Int) ≤ 16)) rfl rfl rfl q7 (v := (.bool (decide ((4 : Int) ≤ gy ∧ (gy : Int) ≤ 16)))) (op_call [(.int .i64 gy), (.int .i64 4), (.int .i64 16)] Try.call41 rfl (withinI gy 4 16)) ?_
    refine L.v (o_pickT (b := decide ((4 : Int) ≤ gx ∧ (gx : Int) ≤ 16)) (v := (.bool (decide ((4 : Int) ≤ gy ∧ (gy : Int) ≤ 16)))) rfl q7 rfl) ?_
    refine L.v (o_assign (v := (.bool (decide ((4 : Int) ≤ gy ∧ (gy : Int) ≤ 16)))) rfl) ?_
    refine L.nil ?_
    refine W.ret ?_
    exact RetK.one σ (.bool (decide ((4 : Int) ≤ gy ∧ (gy : Int) ≤ 16))) rfl rfl ehx5 ⟨by first | rfl | (congr 1; exact decide_eq_decide.2 (by omega)) | (congr 1; exact (decide_eq_false (by omega)).symm) | (congr 1; exact (decide_eq_true (by omega)).symm), rfl⟩
  ·
    have a9 : ¬ ((4 : Int) ≤ gx ∧ (gx : Int) ≤ 16) := of_decide_eq_false q7
    refine L.gF (j := 3) (d₁ := 6) (b := decide ((4 : Int) ≤ gx ∧ (gx : Int) ≤ 16)) rfl rfl rfl q7 ?_
    refine L.gF (j := 3) (d₁ := 6) (b := decide ((4 : Int) ≤ gx ∧ (gx : Int) ≤ 16)) rfl rfl rfl q7 ?_
    refine L.gF (j := 3) (d₁ := 6) (b := decide ((4 : Int) ≤ gx ∧ (gx : Int) ≤ 16)) rfl rfl rfl q7 ?_
    refine L.v (o_pickF (b := decide ((4 : Int) ≤ gx ∧ (gx : Int) ≤ 16)) (v := (.bool false)) rfl q7 rfl) ?_
    refine L.v (o_assign (v := (.bool false)) rfl) ?_
    refine L.nil ?_
    refine W.ret ?_
    exact RetK.one σ (.bool false) rfl rfl ehx5 ⟨by first | rfl | (congr 1; exact decide_eq_decide.2 (by omega)) | (congr 1; exact (decide_eq_false (by omega)).symm) | (congr 1; exact (decide_eq_true (by omega)).symm), rfl⟩

theorem lengthF {w0 : World} {σ : Sg} (p : Option Addr) (n c : Nat) :
    FnV Try.prog w0 64 [(.slice p n c)] σ (.int .i64 (n : Int)) := by
  unfold FnV
  refine Fn.of_W 5 Try.func64 rfl Try.ntmps64 rfl ?_
  refine W.seq ?_
  refine W.region ?_
  refine L.v (o_assign (v := (.int .i64 0)) rfl) ?_
  refine L.nil ?_
  refine W.seq ?_
  refine W.region ?_
  refine L.v (o_move (v := (.slice p n c)) rfl) ?_
  refine L.v (o_len (p := p) (n := n) (c := c) Try.underlying24 rfl) ?_
  refine L.v (o_assign (v := (.int .i64 (n : Int))) rfl) ?_
  refine L.nil ?_
  refine W.ret ?_
  exact RetK.one σ (.int .i64 (n : Int)) rfl rfl (Ext.refl _) ⟨rfl, rfl⟩

theorem gridSize {w0 : World} {σ : Sg} (gx gy : Int) (hg : (4 ≤ gx ∧ gx ≤ 16) ∧ 4 ≤ gy ∧ gy ≤ 16) :
    FnV Try.prog w0 65 [(.agg #[(.int .i64 gx), (.int .i64 gy)])] σ (.int .i64 (gx * gy)) := by
  unfold FnV
  refine Fn.of_W 8 Try.func65 rfl Try.ntmps65 rfl ?_
  refine W.seq ?_
  refine W.region ?_
  refine L.cons (o_box (v := (.agg #[(.int .i64 gx), (.int .i64 gy)])) rfl rfl [(.int .i64 gx), (.int .i64 gy)] rfl) ?_
  rintro _ _ ⟨b1, hf2, hw3, rfl, rfl⟩
  have hb6 : (sg σ b1 (27, [(.int .i64 gx), (.int .i64 gy)])) b1 = some (27, [(.int .i64 gx), (.int .i64 gy)]) := sg_eq _ _ _
  have hx5 : Ext σ (sg σ b1 (27, [(.int .i64 gx), (.int .i64 gy)])) := (Ext.refl _).sg hf2
  have ehx5 := Ext.trans (Ext.refl _) hx5
  generalize hgs4 : sg σ b1 (27, [(.int .i64 gx), (.int .i64 gy)]) = s4 at *
  clear hgs4
  refine L.v (o_assign (v := (.int .i64 0)) rfl) ?_
  refine L.nil ?_
  refine W.seq ?_
  refine W.region ?_
  refine L.v (o_fieldAddr (b := b1) (off := 0) (o := 0) (run_fieldAt (f := 0) (fld := { name := "Wide", type := 2, offset := 0, embedded := false, tag := "", pkgPath := "", byteOffset := 0 }) Try.underlying27 rfl Try.sizeOf2 (Nat.succ_ne_zero _)) rfl) ?_
  refine L.v (o_load (b := b1) (off := 0 + 0) (v := (.int .i64 gx)) Try.isAgg2 rfl (Rd.of hb6 rfl) rfl) ?_
  refine L.v (o_fieldAddr (b := b1) (off := 0) (o := 1) (run_fieldAt (f := 1) (fld := { name := "High", type := 2, offset := 1, embedded := false, tag := "", pkgPath := "", byteOffset := 8 }) Try.underlying27 rfl Try.sizeOf2 (Nat.succ_ne_zero _)) rfl) ?_
  refine L.v (o_load (b := b1) (off := 0 + 1) (v := (.int .i64 gy)) Try.isAgg2 rfl (Rd.of hb6 rfl) rfl) ?_
  refine L.v (o_imul (a := gx) (b := gy) (c := gx * gy) rfl rfl (by rw [IntWalk.i64_in _ (by have := mul_bd (a := gx) (b := gy) (by omega) (by omega); omega)])) ?_
  refine L.v (o_assign (v := (.int .i64 (gx * gy))) rfl) ?_
  refine L.nil ?_
  refine W.ret ?_
  exact RetK.one σ (.int .i64 (gx * gy)) rfl rfl ehx5 ⟨rfl, rfl⟩

theorem specField {w0 : World} {σ : Sg} (b e : Nat) (gx gy : Int) (hb : σ b = some (e, [.int .i64 gx, .int .i64 gy])) (p : Option Addr) (n c : Nat) :
    FnV Try.prog w0 37 [(.pointer (some ⟨b, 0, none⟩)), (.slice p n c)] σ (.bool (decide (((4 ≤ gx ∧ gx ≤ 16) ∧ 4 ≤ gy ∧ gy ≤ 16) ∧ (n : Int) = gx * gy))) := by
  unfold FnV
  refine Fn.of_W 21 Try.func37 rfl Try.ntmps37 rfl ?_
  refine W.seq ?_
  refine W.region ?_
  refine L.v (o_assign (v := (.bool false)) rfl) ?_
  refine L.nil ?_
  refine W.seq ?_
  refine W.draw [true, true, true, true, true, true, true, true, true, true, true, true, true, true, true, true, true] (fun s => s = σ) (by kernel_rfl) (by kernel_rfl) ?_
  refine DL.v (fun _ hD => by cases hD; exact o_move (v := (.pointer (some ⟨b, 0, none⟩))) rfl) ?_
  refine DL.v (v := (.bool (decide ((4 ≤ (gx : Int) ∧ (gx : Int) ≤ 16) ∧ 4 ≤ (gy : Int) ∧ (gy : Int) ≤ 16)))) (fun _ hD => by cases hD; exact op_call [(.pointer (some ⟨b, 0, none⟩))] Try.call45 rfl (specIs b _ gx gy hb)) ?_
  refine DL.v (fun _ hD => by cases hD; exact o_move (v := (.bool (decide ((4 ≤ (gx : Int) ∧ (gx : Int) ≤ 16) ∧ 4 ≤ (gy : Int) ∧ (gy : Int) ≤ 16)))) rfl) ?_
  rcases Bool.eq_false_or_eq_true (decide ((4 ≤ (gx : Int) ∧ (gx : Int) ≤ 16) ∧ 4 ≤ (gy : Int) ∧ (gy : Int) ≤ 16)) with q1 | q1
  ·
    have a2 : (4 ≤ (gx : Int) ∧ (gx : Int) ≤ 16) ∧ 4 ≤ (gy : Int) ∧ (gy : Int) ≤ 16 := of_decide_eq_true q1
    refine DL.gv (j := 2) (d₁ := 7) (b := decide ((4 ≤ (gx : Int) ∧ (gx : Int) ≤ 16) ∧ 4 ≤ (gy : Int) ∧ (gy : Int) ≤ 16)) rfl rfl rfl q1 (fun _ hD => by cases hD; exact o_move (v := (.slice p n c)) rfl) ?_
    refine DL.gv (j := 2) (d₁ := 7) (b := decide ((4 ≤ (gx : Int) ∧ (gx : Int) ≤ 16) ∧ 4 ≤ (gy : Int) ∧ (gy : Int) ≤ 16)) rfl rfl rfl q1 (fun _ hD => by cases hD; exact o_len (p := p) (n := n) (c := c) Try.underlying24 rfl) ?_
    refine DL.gv (j := 2) (d₁ := 7) (b := decide ((4 ≤ (gx : Int) ∧ (gx : Int) ≤ 16) ∧ 4 ≤ (gy : Int) ∧ (gy : Int) ≤ 16)) rfl rfl rfl q1 (fun _ hD => by cases hD; exact o_move (v := (.pointer (some ⟨b, 0, none⟩))) rfl) ?_
    refine DL.gv (j := 2) (d₁ := 7) (b := decide ((4 ≤ (gx : Int) ∧ (gx : Int) ≤ 16) ∧ 4 ≤ (gy : Int) ∧ (gy : Int) ≤ 16)) rfl rfl rfl q1 (fun _ hD => by cases hD; exact o_nilCheck (p := ⟨b, 0, none⟩) rfl) ?_
    refine DL.gv (j := 2) (d₁ := 7) (b := decide ((4 ≤ (gx : Int) ∧ (gx : Int) ≤ 16) ∧ 4 ≤ (gy : Int) ∧ (gy : Int) ≤ 16)) rfl rfl rfl q1 (fun _ hD => by cases hD; exact o_fieldAddr (b := b) (off := 0) (o := 0) (run_fieldAt (f := 0) (fld := { name := "Wide", type := 2, offset := 0, embedded := false, tag := "", pkgPath := "", byteOffset := 0 }) Try.underlying27 rfl Try.sizeOf2 (Nat.succ_ne_zero _)) rfl) ?_
    refine DL.gv (j := 2) (d₁ := 7) (b := decide ((4 ≤ (gx : Int) ∧ (gx : Int) ≤ 16) ∧ 4 ≤ (gy : Int) ∧ (gy : Int) ≤ 16)) rfl rfl rfl q1 (fun _ hD => by cases hD; exact o_load (b := b) (off := 0 + 0) (v := (.int .i64 gx)) Try.isAgg2 rfl (Rd.of hb rfl) rfl) ?_
    refine DL.gv (j := 2) (d₁ := 7) (b := decide ((4 ≤ (gx : Int) ∧ (gx : Int) ≤ 16) ∧ 4 ≤ (gy : Int) ∧ (gy : Int) ≤ 16)) rfl rfl rfl q1 (fun _ hD => by cases hD; exact o_move (v := (.pointer (some ⟨b, 0, none⟩))) rfl) ?_
    refine DL.gv (j := 2) (d₁ := 7) (b := decide ((4 ≤ (gx : Int) ∧ (gx : Int) ≤ 16) ∧ 4 ≤ (gy : Int) ∧ (gy : Int) ≤ 16)) rfl rfl rfl q1 (fun _ hD => by cases hD; exact o_nilCheck (p := ⟨b, 0, none⟩) rfl) ?_
    refine DL.gv (j := 2) (d₁ := 7) (b := decide ((4 ≤ (gx : Int) ∧ (gx : Int) ≤ 16) ∧ 4 ≤ (gy : Int) ∧ (gy : Int) ≤ 16)) rfl rfl rfl q1 (fun _ hD => by cases hD; exact o_fieldAddr (b := b) (off := 0) (o := 1) (run_fieldAt (f := 1) (fld := { name := "High", type := 2, offset := 1, embedded := false, tag := "", pkgPath := "", byteOffset := 8 }) Try.underlying27 rfl Try.sizeOf2 (Nat.succ_ne_zero _)) rfl) ?_
    refine DL.gv (j := 2) (d₁ := 7) (b := decide ((4 ≤ (gx : Int) ∧ (gx : Int) ≤ 16) ∧ 4 ≤ (gy : Int) ∧ (gy : Int) ≤ 16)) rfl rfl rfl q1 (fun _ hD => by cases hD; exact o_load (b := b) (off := 0 + 1) (v := (.int .i64 gy)) Try.isAgg2 rfl (Rd.of hb rfl) rfl) ?_
    refine DL.gv (j := 2) (d₁ := 7) (b := decide ((4 ≤ (gx : Int) ∧ (gx : Int) ≤ 16) ∧ 4 ≤ (gy : Int) ∧ (gy : Int) ≤ 16)) rfl rfl rfl q1 (fun _ hD => by cases hD; exact o_imul (a := gx) (b := gy) (c := gx * gy) rfl rfl (by rw [IntWalk.i64_in _ (by have := mul_bd (a := gx) (b := gy) (by omega) (by omega); omega)])) ?_
    refine DL.gv (j := 2) (d₁ := 7) (b := decide ((4 ≤ (gx : Int) ∧ (gx : Int) ≤ 16) ∧ 4 ≤ (gy : Int) ∧ (gy : Int) ≤ 16)) rfl rfl rfl q1 (fun _ hD => by cases hD; exact o_ieql (a := (n : Int)) (b := gx * gy) rfl rfl rfl) ?_
    refine DL.v (fun _ hD => by cases hD; exact o_pickT (b := decide ((4 ≤ (gx : Int) ∧ (gx : Int) ≤ 16) ∧ 4 ≤ (gy : Int) ∧ (gy : Int) ≤ 16)) (v := (.bool (decide (((n : Int) : Int) = (gx * gy))))) rfl q1 rfl) ?_
    refine DL.v (fun _ hD => by cases hD; exact o_assign (v := (.bool (decide (((n : Int) : Int) = (gx * gy))))) rfl) ?_
    refine DL.nil rfl ?_
    refine W.ret ?_
    exact RetK.one σ (.bool (decide (((n : Int) : Int) = (gx * gy)))) rfl rfl (Ext.refl _) ⟨by first | rfl | (congr 1; exact decide_eq_decide.2 (by omega)) | (congr 1; exact (decide_eq_false (by omega)).symm) | (congr 1; exact (decide_eq_true (by omega)).symm), rfl⟩
  ·
    have a3 : ¬ ((4 ≤ (gx : Int) ∧ (gx : Int) ≤ 16) ∧ 4 ≤ (gy : Int) ∧ (gy : Int) ≤ 16) := of_decide_eq_false q1
    refine DL.gF (j := 2) (d₁ := 7) (b := decide ((4 ≤ (gx : Int) ∧ (gx : Int) ≤ 16) ∧ 4 ≤ (gy : Int) ∧ (gy : Int) ≤ 16)) rfl rfl rfl q1 ?_
    refine DL.gF (j := 2) (d₁ := 7) (b := decide ((4 ≤ (gx : Int) ∧ (gx : Int) ≤ 16) ∧ 4 ≤ (gy : Int) ∧ (gy : Int) ≤ 16)) rfl rfl rfl q1 ?_
    refine DL.gF (j := 2) (d₁ := 7) (b := decide ((4 ≤ (gx : Int) ∧ (gx : Int) ≤ 16) ∧ 4 ≤ (gy : Int) ∧ (gy : Int) ≤ 16)) rfl rfl rfl q1 ?_
    refine DL.gF (j := 2) (d₁ := 7) (b := decide ((4 ≤ (gx : Int) ∧ (gx : Int) ≤ 16) ∧ 4 ≤ (gy : Int) ∧ (gy : Int) ≤ 16)) rfl rfl rfl q1 ?_
    refine DL.gF (j := 2) (d₁ := 7) (b := decide ((4 ≤ (gx : Int) ∧ (gx : Int) ≤ 16) ∧ 4 ≤ (gy : Int) ∧ (gy : Int) ≤ 16)) rfl rfl rfl q1 ?_
    refine DL.gF (j := 2) (d₁ := 7) (b := decide ((4 ≤ (gx : Int) ∧ (gx : Int) ≤ 16) ∧ 4 ≤ (gy : Int) ∧ (gy : Int) ≤ 16)) rfl rfl rfl q1 ?_
    refine DL.gF (j := 2) (d₁ := 7) (b := decide ((4 ≤ (gx : Int) ∧ (gx : Int) ≤ 16) ∧ 4 ≤ (gy : Int) ∧ (gy : Int) ≤ 16)) rfl rfl rfl q1 ?_
    refine DL.gF (j := 2) (d₁ := 7) (b := decide ((4 ≤ (gx : Int) ∧ (gx : Int) ≤ 16) ∧ 4 ≤ (gy : Int) ∧ (gy : Int) ≤ 16)) rfl rfl rfl q1 ?_
    refine DL.gF (j := 2) (d₁ := 7) (b := decide ((4 ≤ (gx : Int) ∧ (gx : Int) ≤ 16) ∧ 4 ≤ (gy : Int) ∧ (gy : Int) ≤ 16)) rfl rfl rfl q1 ?_
    refine DL.gF (j := 2) (d₁ := 7) (b := decide ((4 ≤ (gx : Int) ∧ (gx : Int) ≤ 16) ∧ 4 ≤ (gy : Int) ∧ (gy : Int) ≤ 16)) rfl rfl rfl q1 ?_
    refine DL.gF (j := 2) (d₁ := 7) (b := decide ((4 ≤ (gx : Int) ∧ (gx : Int) ≤ 16) ∧ 4 ≤ (gy : Int) ∧ (gy : Int) ≤ 16)) rfl rfl rfl q1 ?_
    refine DL.gF (j := 2) (d₁ := 7) (b := decide ((4 ≤ (gx : Int) ∧ (gx : Int) ≤ 16) ∧ 4 ≤ (gy : Int) ∧ (gy : Int) ≤ 16)) rfl rfl rfl q1 ?_
    refine DL.v (fun _ hD => by cases hD; exact o_pickF (b := decide ((4 ≤ (gx : Int) ∧ (gx : Int) ≤ 16) ∧ 4 ≤ (gy : Int) ∧ (gy : Int) ≤ 16)) (v := (.bool false)) rfl q1 rfl) ?_
    refine DL.v (fun _ hD => by cases hD; exact o_assign (v := (.bool false)) rfl) ?_
    refine DL.nil rfl ?_
    refine W.ret ?_
    exact RetK.one σ (.bool false) rfl rfl (Ext.refl _) ⟨by first | rfl | (congr 1; exact decide_eq_decide.2 (by omega)) | (congr 1; exact (decide_eq_false (by omega)).symm) | (congr 1; exact (decide_eq_true (by omega)).symm), rfl⟩

theorem implField {w0 : World} {σ : Sg} (gx gy : Int) (p : Option Addr) (n c : Nat) :
    FnV Try.prog w0 40 [(.agg #[(.int .i64 gx), (.int .i64 gy)]), (.slice p n c)] σ (.bool (decide (((4 ≤ gx ∧ gx ≤ 16) ∧ 4 ≤ gy ∧ gy ≤ 16) ∧ (n : Int) = gx * gy))) := by
  unfold FnV
  refine Fn.of_W 14 Try.func40 rfl Try.ntmps40 rfl ?_
  refine W.seq ?_
  refine W.region ?_
  refine L.cons (o_box (v := (.agg #[(.int .i64 gx), (.int .i64 gy)])) rfl rfl [(.int .i64 gx), (.int .i64 gy)] rfl) ?_
  rintro _ _ ⟨b1, hf2, hw3, rfl, rfl⟩
  have hb6 : (sg σ b1 (27, [(.int .i64 gx), (.int .i64 gy)])) b1 = some (27, [(.int .i64 gx), (.int .i64 gy)]) := sg_eq _ _ _
  have hx5 : Ext σ (sg σ b1 (27, [(.int .i64 gx), (.int .i64 gy)])) := (Ext.refl _).sg hf2
  have ehx5 := Ext.trans (Ext.refl _) hx5
  generalize hgs4 : sg σ b1 (27, [(.int .i64 gx), (.int .i64 gy)]) = s4 at *
  clear hgs4
  refine L.v (o_assign (v := (.bool false)) rfl) ?_
  refine L.nil ?_
  refine W.seq ?_
  refine W.draw [true, true, true, true, true, true, true, true, true, true] (fun s => s = s4) (by kernel_rfl) (by kernel_rfl) ?_
  refine DL.v (fun _ hD => by cases hD; exact o_loads (b := b1) (off := 0) (vs := [(.int .i64 gx), (.int .i64 gy)]) Try.isAgg27 Try.sizeOf27 rfl rfl (Rds.of hb6 (by intro j v hj; simpa using hj))) ?_
  refine DL.v (v := (.bool (decide ((4 ≤ (gx : Int) ∧ (gx : Int) ≤ 16) ∧ 4 ≤ (gy : Int) ∧ (gy : Int) ≤ 16)))) (fun _ hD => by cases hD; exact op_call [(.agg #[(.int .i64 gx), (.int .i64 gy)])] Try.call46 rfl (implIs gx gy)) ?_
  refine DL.v (fun _ hD => by cases hD; exact o_move (v := (.bool (decide ((4 ≤ (gx : Int) ∧ (gx : Int) ≤ 16) ∧ 4 ≤ (gy : Int) ∧ (gy : Int) ≤ 16)))) rfl) ?_
  rcases Bool.eq_false_or_eq_true (decide ((4 ≤ (gx : Int) ∧ (gx : Int) ≤ 16) ∧ 4 ≤ (gy : Int) ∧ (gy : Int) ≤ 16)) with q7 | q7
  ·
    have a8 : (4 ≤ (gx : Int) ∧ (gx : Int) ≤ 16) ∧ 4 ≤ (gy : Int) ∧ (gy : Int) ≤ 16 := of_decide_eq_true q7
    refine DL.gv (j := 2) (d₁ := 7) (b := decide ((4 ≤ (gx : Int) ∧ (gx : Int) ≤ 16) ∧ 4 ≤ (gy : Int) ∧ (gy : Int) ≤ 16)) rfl rfl rfl q7 (fun _ hD => by cases hD; exact o_move (v := (.slice p n c)) rfl) ?_
    refine DL.gv (j := 2) (d₁ := 7) (b := decide ((4 ≤ (gx : Int) ∧ (gx : Int) ≤ 16) ∧ 4 ≤ (gy : Int) ∧ (gy : Int) ≤ 16)) rfl rfl rfl q7 (v := (.int .i64 (n : Int))) (fun _ hD => by cases hD; exact op_call [(.slice p n c)] Try.call64 rfl (lengthF p n c)) ?_
    refine DL.gv (j := 2) (d₁ := 7) (b := decide ((4 ≤ (gx : Int) ∧ (gx : Int) ≤ 16) ∧ 4 ≤ (gy : Int) ∧ (gy : Int) ≤ 16)) rfl rfl rfl q7 (fun _ hD => by cases hD; exact o_loads (b := b1) (off := 0) (vs := [(.int .i64 gx), (.int .i64 gy)]) Try.isAgg27 Try.sizeOf27 rfl rfl (Rds.of hb6 (by intro j v hj; simpa using hj))) ?_
    refine DL.gv (j := 2) (d₁ := 7) (b := decide ((4 ≤ (gx : Int) ∧ (gx : Int) ≤ 16) ∧ 4 ≤ (gy : Int) ∧ (gy : Int) ≤ 16)) rfl rfl rfl q7 (v := (.int .i64 (gx * gy))) (fun _ hD => by cases hD; exact op_call [(.agg #[(.int .i64 gx), (.int .i64 gy)])] Try.call65 rfl (gridSize gx gy (by omega))) ?_
    refine DL.gv (j := 2) (d₁ := 7) (b := decide ((4 ≤ (gx : Int) ∧ (gx : Int) ≤ 16) ∧ 4 ≤ (gy : Int) ∧ (gy : Int) ≤ 16)) rfl rfl rfl q7 (fun _ hD => by cases hD; exact o_ieql (a := (n : Int)) (b := gx * gy) rfl rfl rfl) ?_
    refine DL.v (fun _ hD => by cases hD; exact o_pickT (b := decide ((4 ≤ (gx : Int) ∧ (gx : Int) ≤ 16) ∧ 4 ≤ (gy : Int) ∧ (gy : Int) ≤ 16)) (v := (.bool (decide (((n : Int) : Int) = (gx * gy))))) rfl q7 rfl) ?_
    refine DL.v (fun _ hD => by cases hD; exact o_assign (v := (.bool (decide (((n : Int) : Int) = (gx * gy))))) rfl) ?_
    refine DL.nil rfl ?_
    refine W.ret ?_
    exact RetK.one σ (.bool (decide (((n : Int) : Int) = (gx * gy)))) rfl rfl ehx5 ⟨by first | rfl | (congr 1; exact decide_eq_decide.2 (by omega)) | (congr 1; exact (decide_eq_false (by omega)).symm) | (congr 1; exact (decide_eq_true (by omega)).symm), rfl⟩
  ·
    have a9 : ¬ ((4 ≤ (gx : Int) ∧ (gx : Int) ≤ 16) ∧ 4 ≤ (gy : Int) ∧ (gy : Int) ≤ 16) := of_decide_eq_false q7
    refine DL.gF (j := 2) (d₁ := 7) (b := decide ((4 ≤ (gx : Int) ∧ (gx : Int) ≤ 16) ∧ 4 ≤ (gy : Int) ∧ (gy : Int) ≤ 16)) rfl rfl rfl q7 ?_
    refine DL.gF (j := 2) (d₁ := 7) (b := decide ((4 ≤ (gx : Int) ∧ (gx : Int) ≤ 16) ∧ 4 ≤ (gy : Int) ∧ (gy : Int) ≤ 16)) rfl rfl rfl q7 ?_
    refine DL.gF (j := 2) (d₁ := 7) (b := decide ((4 ≤ (gx : Int) ∧ (gx : Int) ≤ 16) ∧ 4 ≤ (gy : Int) ∧ (gy : Int) ≤ 16)) rfl rfl rfl q7 ?_
    refine DL.gF (j := 2) (d₁ := 7) (b := decide ((4 ≤ (gx : Int) ∧ (gx : Int) ≤ 16) ∧ 4 ≤ (gy : Int) ∧ (gy : Int) ≤ 16)) rfl rfl rfl q7 ?_
    refine DL.gF (j := 2) (d₁ := 7) (b := decide ((4 ≤ (gx : Int) ∧ (gx : Int) ≤ 16) ∧ 4 ≤ (gy : Int) ∧ (gy : Int) ≤ 16)) rfl rfl rfl q7 ?_
    refine DL.v (fun _ hD => by cases hD; exact o_pickF (b := decide ((4 ≤ (gx : Int) ∧ (gx : Int) ≤ 16) ∧ 4 ≤ (gy : Int) ∧ (gy : Int) ≤ 16)) (v := (.bool false)) rfl q7 rfl) ?_
    refine DL.v (fun _ hD => by cases hD; exact o_assign (v := (.bool false)) rfl) ?_
    refine DL.nil rfl ?_
    refine W.ret ?_
    exact RetK.one σ (.bool false) rfl rfl ehx5 ⟨by first | rfl | (congr 1; exact decide_eq_decide.2 (by omega)) | (congr 1; exact (decide_eq_false (by omega)).symm) | (congr 1; exact (decide_eq_true (by omega)).symm), rfl⟩

end Go.Proofs.Ytpgmpjejfpmnoaa.En
