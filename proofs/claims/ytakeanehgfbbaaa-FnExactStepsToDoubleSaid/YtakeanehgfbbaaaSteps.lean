/- StepsToDouble in the program and in the reference, and its law: what each call gives, for every list that can be read. -/
import Derived.Test.YtakeanehgfbbaaaLibb
import Derived.Test.YtakeanehgfbbaaaRows
namespace Go.Proofs.Ytakeanehgfbbaaa.En
open Go
set_option linter.unusedVariables false
def stepP (xs : List Nat) (i : Nat) : Bool := fcmp .geq .f32 (xs.getD i 0) (fop .mul .f32 1073741824 (xs.getD 0 0))
def stepO (xs : List Nat) : Option Nat := if xs.length ≤ 256 then (List.range xs.length).find? (stepP xs) else none
def stepI (xs : List Nat) : Int := ((stepO xs).getD 0 : Nat)
def stepB (xs : List Nat) : Bool := (stepO xs).isSome
theorem step_hit {xs : List Nat} {i : Nat} (h : xs.length ≤ 256) (hi : i < xs.length) (hp : stepP xs i = true) (hq : ∀ j, j < i → stepP xs j = false) : stepI xs = i ∧ stepB xs = true := by
  have : stepO xs = some i := by
    rw [stepO, if_pos h, List.find?_range_eq_some]
    exact ⟨hp, List.mem_range.2 hi, fun j hj => by rw [hq j hj]; rfl⟩
  rw [stepI, stepB, this]; exact ⟨rfl, rfl⟩
theorem step_miss {xs : List Nat} (h : xs.length ≤ 256) (hq : ∀ j, j < xs.length → stepP xs j = false) : stepI xs = 0 ∧ stepB xs = false := by
  have : stepO xs = none := by
    rw [stepO, if_pos h, List.find?_range_eq_none]
    exact fun j hj => by rw [hq j hj]; rfl
  rw [stepI, stepB, this]; exact ⟨rfl, rfl⟩
theorem step_big {xs : List Nat} (h : ¬ xs.length ≤ 256) : stepI xs = 0 ∧ stepB xs = false := by
  rw [stepI, stepB, stepO, if_neg h]; exact ⟨rfl, rfl⟩
theorem specSteps {w0 : World} {σ : Sg} (p : Option Addr) (c : Nat) (xs : List Nat) (hs : Sl σ 1 p (xs.map fl)) :
    FnV Try.prog w0 18 [(.slice p xs.length c)] σ (.tuple #[.int .i64 (stepI xs), .bool (stepB xs)]) := by
  unfold FnV
  refine Fn.of_W 26 Try.func18 rfl Try.ntmps18 rfl ?_
  refine W.seq ?_
  refine W.region ?_
  refine L.v (o_assign (v := (.int .i64 0)) rfl) ?_
  refine L.v (o_assign (v := (.bool false)) rfl) ?_
  refine L.nil ?_
  refine W.seq ?_
  refine W.seq ?_
  refine W.region ?_
  refine L.v (o_assign (v := (.int .i64 0)) rfl) ?_
  refine L.nil ?_
  refine W.block ?_
  refine W.loop (fun nn tt ss => ∃ (i : Nat), nn = xs.length - i ∧ ((i ≤ xs.length ∧ xs.length ≤ 256) ∨ i = 0) ∧ (∀ j, j < i → stepP xs j = false) ∧ FrOk tt [(0, (.slice p xs.length c)), (4, (.int .i64 (i : Int)))] ∧ σ = ss) _ ⟨0, rfl, (by omega), (fun j hj => absurd hj (by omega)), ⟨rfl, rfl, trivial⟩, rfl⟩ ?_
  rintro _ t1 _ ⟨i, rfl, hi, hq, f2, rfl⟩
  rw [← frame_ok f2]
  show W _ _ _ _ _ (upd (upd t1 0 (.slice p xs.length c)) 4 (.int .i64 (i : Int))) _
  refine W.seq ?_
  refine W.seq ?_
  refine W.region ?_
  refine L.v (o_move (v := (.int .i64 (i : Int))) rfl) ?_
  refine L.v (o_move (v := (.slice p xs.length c)) rfl) ?_
  refine L.v (o_len (p := p) (n := xs.length) (c := c) Try.underlying22 rfl) ?_
  refine L.v (o_ilss (a := (i : Int)) (b := (xs.length : Int)) rfl rfl rfl) ?_
  refine L.v (o_move (v := (.bool (decide (((i : Int) : Int) < (xs.length : Int))))) rfl) ?_
  rcases Bool.eq_false_or_eq_true (decide (((i : Int) : Int) < (xs.length : Int))) with q3 | q3
  ·
    have a4 : ((i : Int) : Int) < (xs.length : Int) := of_decide_eq_true q3
    refine L.gv (j := 4) (d₁ := 9) (b := decide (((i : Int) : Int) < (xs.length : Int))) rfl rfl rfl q3 (o_move (v := (.slice p xs.length c)) rfl) ?_
    refine L.gv (j := 4) (d₁ := 9) (b := decide (((i : Int) : Int) < (xs.length : Int))) rfl rfl rfl q3 (o_len (p := p) (n := xs.length) (c := c) Try.underlying22 rfl) ?_
    refine L.gv (j := 4) (d₁ := 9) (b := decide (((i : Int) : Int) < (xs.length : Int))) rfl rfl rfl q3 (o_ileq (a := (xs.length : Int)) (b := 256) rfl rfl rfl) ?_
    refine L.v (o_pickT (b := decide (((i : Int) : Int) < (xs.length : Int))) (v := (.bool (decide (((xs.length : Int) : Int) ≤ 256)))) rfl q3 rfl) ?_
    refine L.nil ?_
    refine W.cond (b := decide (((xs.length : Int) : Int) ≤ 256)) rfl (fun q5 => ?_) (fun q5 => ?_)
    ·
      have a6 : ((xs.length : Int) : Int) ≤ 256 := of_decide_eq_true q5
      refine W.skip ?_
      refine W.seq ?_
      refine W.block ?_
      refine W.seq ?_
      obtain ⟨b7, o8, rfl, _⟩ := hs.elem i (by omega) 0
      refine W.draw [true, true, true, true, true, true, true, true, true] (fun s => s = σ) (by kernel_rfl) (by kernel_rfl) ?_
      refine DL.v (fun _ hD => by cases hD; exact o_move (v := (.slice (some ⟨b7, o8, none⟩) xs.length c)) rfl) ?_
      refine DL.v (fun _ hD => by cases hD; exact o_move (v := (.int .i64 (i : Int))) rfl) ?_
      refine DL.v (fun _ hD => by cases hD; exact o_indexAddr (b := b7) (off := o8) (n := xs.length) (c := c) i Try.underlying22 Try.sizeOf23 rfl rfl (by omega)) ?_
      refine DL.v (fun _ hD => by cases hD; exact o_load (b := b7) (off := o8 + i * 1) (v := (.float .f32 (xs.getD i 0))) Try.isAgg23 rfl (Rds.fst (Sl.at hs i (by omega) 0)) rfl) ?_
      refine DL.v (fun _ hD => by cases hD; exact o_move (v := (.slice (some ⟨b7, o8, none⟩) xs.length c)) rfl) ?_
      refine DL.v (fun _ hD => by cases hD; exact o_indexAddr (b := b7) (off := o8) (n := xs.length) (c := c) 0 Try.underlying22 Try.sizeOf23 rfl rfl (by omega)) ?_
      refine DL.v (fun _ hD => by cases hD; exact o_load (b := b7) (off := o8 + 0 * 1) (v := (.float .f32 (xs.getD 0 0))) Try.isAgg23 rfl (Rds.fst (Sl.at hs 0 (by omega) 0)) rfl) ?_
      refine DL.v (fun _ hD => by cases hD; exact o_farith (k := .f32) (a := 1073741824) (b := xs.getD 0 0) rfl rfl rfl) ?_
      refine DL.v (fun _ hD => by cases hD; exact o_fcmp (k := .f32) (a := xs.getD i 0) (b := fop .mul .f32 1073741824 (xs.getD 0 0)) rfl rfl rfl rfl) ?_
      refine DL.nil rfl ?_
      refine W.cond (b := fcmp .geq .f32 (xs.getD i 0) (fop .mul .f32 1073741824 (xs.getD 0 0))) rfl (fun q9 => ?_) (fun q9 => ?_)
      ·
        refine W.seq ?_
        refine W.region ?_
        refine L.v (o_move (v := (.int .i64 (i : Int))) rfl) ?_
        refine L.v (o_assign (v := (.int .i64 (i : Int))) rfl) ?_
        refine L.v (o_assign (v := (.bool true)) rfl) ?_
        refine L.nil ?_
        refine W.ret ?_
        exact RetK.two σ (.int .i64 (i : Int)) (.bool true) rfl rfl rfl rfl rfl (Ext.refl _) ⟨by rw [(step_hit (by omega) (by omega) q9 hq).1, (step_hit (by omega) (by omega) q9 hq).2], rfl⟩
      ·
        refine W.skip ?_
        refine W.region ?_
        refine L.v (o_move (v := (.int .i64 (i : Int))) rfl) ?_
        refine L.v (o_iadd (a := (i : Int)) (b := 1) (c := ((i + 1 : Nat) : Int)) rfl rfl (by rw [IntWalk.i64_in _ (by omega)]; try omega)) ?_
        refine L.v (o_assign (v := (.int .i64 (((i + 1 : Nat) : Int)))) rfl) ?_
        refine L.nil ?_
        exact ⟨_, (by omega), i + 1, rfl, (by omega), (fun j hj => if h : j = i then (by rw [h]; exact q9) else hq j (by omega)), ⟨rfl, rfl, trivial⟩, rfl⟩
    ·
      have a10 : ¬ (((xs.length : Int) : Int) ≤ 256) := of_decide_eq_false q5
      refine W.exit ?_
      refine W.seq ?_
      refine W.region ?_
      refine L.v (o_assign (v := (.int .i64 0)) rfl) ?_
      refine L.v (o_assign (v := (.bool false)) rfl) ?_
      refine L.nil ?_
      refine W.ret ?_
      exact RetK.two σ (.int .i64 0) (.bool false) rfl rfl rfl rfl rfl (Ext.refl _) ⟨by first | rw [(step_big (by omega)).1, (step_big (by omega)).2] | rw [(step_miss (by omega) fun j hj => hq j (by omega)).1, (step_miss (by omega) fun j hj => hq j (by omega)).2], rfl⟩
  ·
    have a11 : ¬ (((i : Int) : Int) < (xs.length : Int)) := of_decide_eq_false q3
    refine L.gF (j := 4) (d₁ := 9) (b := decide (((i : Int) : Int) < (xs.length : Int))) rfl rfl rfl q3 ?_
    refine L.gF (j := 4) (d₁ := 9) (b := decide (((i : Int) : Int) < (xs.length : Int))) rfl rfl rfl q3 ?_
    refine L.gF (j := 4) (d₁ := 9) (b := decide (((i : Int) : Int) < (xs.length : Int))) rfl rfl rfl q3 ?_
    refine L.v (o_pickF (b := decide (((i : Int) : Int) < (xs.length : Int))) (v := (.bool false)) rfl q3 rfl) ?_
    refine L.nil ?_
    refine W.condF (b := false) rfl rfl ?_
    refine W.exit ?_
    refine W.seq ?_
    refine W.region ?_
    refine L.v (o_assign (v := (.int .i64 0)) rfl) ?_
    refine L.v (o_assign (v := (.bool false)) rfl) ?_
    refine L.nil ?_
    refine W.ret ?_
    exact RetK.two σ (.int .i64 0) (.bool false) rfl rfl rfl rfl rfl (Ext.refl _) ⟨by first | rw [(step_big (by omega)).1, (step_big (by omega)).2] | rw [(step_miss (by omega) fun j hj => hq j (by omega)).1, (step_miss (by omega) fun j hj => hq j (by omega)).2], rfl⟩

theorem implSteps {w0 : World} {σ : Sg} (p : Option Addr) (c : Nat) (xs : List Nat) (hs : Sl σ 1 p (xs.map fl)) :
    FnV Try.prog w0 19 [(.slice p xs.length c)] σ (.tuple #[.int .i64 (stepI xs), .bool (stepB xs)]) := by
  unfold FnV
  refine Fn.of_W 24 Try.func19 rfl Try.ntmps19 rfl ?_
  refine W.seq ?_
  refine W.region ?_
  refine L.v (o_assign (v := (.int .i64 0)) rfl) ?_
  refine L.v (o_assign (v := (.bool false)) rfl) ?_
  refine L.nil ?_
  refine W.seq ?_
  refine W.seq ?_
  refine W.region ?_
  refine L.v (o_move (v := (.slice p xs.length c)) rfl) ?_
  refine L.v (v := (.bool (decide ((xs.length : Int) ≤ 256)))) (op_call [(.slice p xs.length c)] Try.call33 rfl (isListF p xs.length c)) ?_
  refine L.v (o_not (b := decide ((xs.length : Int) ≤ 256)) rfl rfl) ?_
  refine L.nil ?_
  refine W.cond (b := !(decide ((xs.length : Int) ≤ 256))) rfl (fun q1 => ?_) (fun q1 => ?_)
  ·
    have a2 : ¬ ((xs.length : Int) ≤ 256) := of_decide_eq_false (bn_t q1)
    refine W.seq ?_
    refine W.region ?_
    refine L.v (o_assign (v := (.int .i64 0)) rfl) ?_
    refine L.v (o_assign (v := (.bool false)) rfl) ?_
    refine L.nil ?_
    refine W.ret ?_
    exact RetK.two σ (.int .i64 0) (.bool false) rfl rfl rfl rfl rfl (Ext.refl _) ⟨by first | rw [(step_big (by omega)).1, (step_big (by omega)).2] | rw [(step_miss (by omega) fun j hj => hq j (by omega)).1, (step_miss (by omega) fun j hj => hq j (by omega)).2], rfl⟩
  ·
    have a3 : (xs.length : Int) ≤ 256 := of_decide_eq_true (bn_f q1)
    refine W.skip ?_
    refine W.seq ?_
    refine W.seq ?_
    refine W.region ?_
    refine L.v (o_move (v := (.slice p xs.length c)) rfl) ?_
    refine L.v (o_len (p := p) (n := xs.length) (c := c) Try.underlying22 rfl) ?_
    refine L.v (o_move (v := (.int .i64 0)) rfl) ?_
    refine L.nil ?_
    refine W.block ?_
    refine W.loop (fun nn tt ss => ∃ (i : Nat), nn = xs.length - i ∧ ((i ≤ xs.length ∧ xs.length ≤ 256) ∨ i = 0) ∧ (∀ j, j < i → stepP xs j = false) ∧ FrOk tt [(0, (.slice p xs.length c)), (9, (.slice p xs.length c)), (10, (.int .i64 (xs.length : Int))), (11, (.int .i64 (i : Int)))] ∧ σ = ss) _ ⟨0, rfl, (by omega), (fun j hj => absurd hj (by omega)), ⟨rfl, rfl, rfl, rfl, trivial⟩, rfl⟩ ?_
    rintro _ t4 _ ⟨i, rfl, hi, hq, f5, rfl⟩
    rw [← frame_ok f5]
    show W _ _ _ _ _ (upd (upd (upd (upd t4 0 (.slice p xs.length c)) 9 (.slice p xs.length c)) 10 (.int .i64 (xs.length : Int))) 11 (.int .i64 (i : Int))) _
    refine W.seq ?_
    refine W.region ?_
    refine L.v (o_ilss (a := (i : Int)) (b := (xs.length : Int)) rfl rfl rfl) ?_
    refine L.nil ?_
    refine W.seq ?_
    refine W.cond (b := decide (((i : Int) : Int) < (xs.length : Int))) rfl (fun q6 => ?_) (fun q6 => ?_)
    ·
      have a7 : ((i : Int) : Int) < (xs.length : Int) := of_decide_eq_true q6
      refine W.skip ?_
      refine W.seq ?_
      refine W.block ?_
      refine W.seq ?_
      obtain ⟨b8, o9, rfl, _⟩ := hs.elem i (by omega) 0
      refine W.region ?_
      refine L.v (o_move (v := (.int .i64 (i : Int))) rfl) ?_
      refine L.v (o_indexAddr (b := b8) (off := o9) (n := xs.length) (c := c) i Try.underlying22 Try.sizeOf23 rfl rfl (by omega)) ?_
      refine L.v (o_load (b := b8) (off := o9 + i * 1) (v := (.float .f32 (xs.getD i 0))) Try.isAgg23 rfl (Rds.fst (Sl.at hs i (by omega) 0)) rfl) ?_
      refine L.v (o_assign (v := (.int .i64 (i : Int))) rfl) ?_
      refine L.v (o_assign (v := (.float .f32 (xs.getD i 0))) rfl) ?_
      refine L.nil ?_
      refine W.seq ?_
      refine W.region ?_
      refine L.v (o_move (v := (.float .f32 (xs.getD i 0))) rfl) ?_
      refine L.v (o_move (v := (.slice (some ⟨b8, o9, none⟩) xs.length c)) rfl) ?_
      refine L.v (o_indexAddr (b := b8) (off := o9) (n := xs.length) (c := c) 0 Try.underlying22 Try.sizeOf23 rfl rfl (by omega)) ?_
      refine L.v (o_load (b := b8) (off := o9 + 0 * 1) (v := (.float .f32 (xs.getD 0 0))) Try.isAgg23 rfl (Rds.fst (Sl.at hs 0 (by omega) 0)) rfl) ?_
      refine L.v (o_farith (k := .f32) (a := 1073741824) (b := xs.getD 0 0) rfl rfl rfl) ?_
      refine L.v (o_fcmp (k := .f32) (a := xs.getD i 0) (b := fop .mul .f32 1073741824 (xs.getD 0 0)) rfl rfl rfl rfl) ?_
      refine L.nil ?_
      refine W.cond (b := fcmp .geq .f32 (xs.getD i 0) (fop .mul .f32 1073741824 (xs.getD 0 0))) rfl (fun q10 => ?_) (fun q10 => ?_)
      ·
        refine W.seq ?_
        refine W.region ?_
        refine L.v (o_move (v := (.int .i64 (i : Int))) rfl) ?_
        refine L.v (o_assign (v := (.int .i64 (i : Int))) rfl) ?_
        refine L.v (o_assign (v := (.bool true)) rfl) ?_
        refine L.nil ?_
        refine W.ret ?_
        exact RetK.two σ (.int .i64 (i : Int)) (.bool true) rfl rfl rfl rfl rfl (Ext.refl _) ⟨by rw [(step_hit (by omega) (by omega) q10 hq).1, (step_hit (by omega) (by omega) q10 hq).2], rfl⟩
      ·
        refine W.skip ?_
        refine W.region ?_
        refine L.v (o_iadd (a := (i : Int)) (b := 1) (c := ((i + 1 : Nat) : Int)) rfl rfl (by rw [IntWalk.i64_in _ (by omega)]; try omega)) ?_
        refine L.v (o_move (v := (.int .i64 (((i + 1 : Nat) : Int)))) rfl) ?_
        refine L.nil ?_
        exact ⟨_, (by omega), i + 1, rfl, (by omega), (fun j hj => if h : j = i then (by rw [h]; exact q10) else hq j (by omega)), ⟨rfl, rfl, rfl, rfl, trivial⟩, rfl⟩
    ·
      have a11 : ¬ (((i : Int) : Int) < (xs.length : Int)) := of_decide_eq_false q6
      refine W.exit ?_
      refine W.seq ?_
      refine W.region ?_
      refine L.v (o_assign (v := (.int .i64 0)) rfl) ?_
      refine L.v (o_assign (v := (.bool false)) rfl) ?_
      refine L.nil ?_
      refine W.ret ?_
      exact RetK.two σ (.int .i64 0) (.bool false) rfl rfl rfl rfl rfl (Ext.refl _) ⟨by first | rw [(step_big (by omega)).1, (step_big (by omega)).2] | rw [(step_miss (by omega) fun j hj => hq j (by omega)).1, (step_miss (by omega) fun j hj => hq j (by omega)).2], rfl⟩

theorem lawSteps {w0 : World} {σ : Sg} (p : Option Addr) (c : Nat) (xs : List Nat) (hs : Sl σ 1 p (xs.map fl)) :
    Fn Try.prog w0 5 [(.slice p xs.length c)] σ (fun u _ => u = .bool true) := by
  refine Fn.of_W 37 Try.func5 rfl Try.ntmps5 rfl ?_
  refine W.seq ?_
  refine W.region ?_
  refine L.v (o_assign (v := (.bool false)) rfl) ?_
  refine L.nil ?_
  refine W.seq ?_
  refine W.seq ?_
  refine W.region ?_
  refine L.v (o_move (v := (.slice p xs.length c)) rfl) ?_
  refine L.v (o_len (p := p) (n := xs.length) (c := c) Try.underlying22 rfl) ?_
  refine L.v (o_igtr (a := (xs.length : Int)) (b := 1048576) rfl rfl rfl) ?_
  refine L.nil ?_
  refine W.cond (b := decide ((1048576 : Int) < (xs.length : Int))) rfl (fun q1 => ?_) (fun q1 => ?_)
  ·
    have a2 : (1048576 : Int) < (xs.length : Int) := of_decide_eq_true q1
    refine W.seq ?_
    refine W.region ?_
    refine L.v (o_assign (v := (.bool true)) rfl) ?_
    refine L.nil ?_
    refine W.ret ?_
    exact RetK.one _ (.bool true) rfl rfl (Ext.refl _) rfl
  ·
    have a3 : ¬ ((1048576 : Int) < (xs.length : Int)) := of_decide_eq_false q1
    refine W.skip ?_
    refine W.seq ?_
    refine W.region ?_
    refine L.v (o_move (v := (.slice p xs.length c)) rfl) ?_
    refine L.cons (op_call [(.slice p xs.length c)] Try.call12 rfl (toF32S p c xs hs (by omega))) ?_
    rintro _ s6 ⟨p4, c5, rfl, fs7⟩
    have ap8 : Apart (xs.length) (xs.length) p4 p := by simpa using Fsl.apart fs7 hs (fl_ne _)
    have hs9 := Sl.ext hs fs7.ext
    have ex10 := Ext.trans (Ext.refl σ) fs7.ext
    have mu11 := Fsl.mut fs7 (xs.length) (by simp)
    refine L.v (v := (.tuple #[(.int .i64 (stepI xs)), (.bool (stepB xs))])) (op_call [(.slice p4 xs.length c5)] Try.call18 rfl (specSteps p4 c5 xs (Fsl.reads fs7))) ?_
    refine L.v (o_move (v := (.tuple #[(.int .i64 (stepI xs)), (.bool (stepB xs))])) rfl) ?_
    refine L.v (o_extract (vs := #[(.int .i64 (stepI xs)), (.bool (stepB xs))]) (v := (.int .i64 (stepI xs))) rfl rfl rfl) ?_
    refine L.v (o_extract (vs := #[(.int .i64 (stepI xs)), (.bool (stepB xs))]) (v := (.bool (stepB xs))) rfl rfl rfl) ?_
    refine L.v (o_assign (v := (.int .i64 (stepI xs))) rfl) ?_
    refine L.v (o_assign (v := (.bool (stepB xs))) rfl) ?_
    refine L.nil ?_
    refine W.seq ?_
    refine W.region ?_
    refine L.v (o_move (v := (.slice p xs.length c)) rfl) ?_
    refine L.cons (op_call [(.slice p xs.length c)] Try.call12 rfl (toF32S p c xs hs9 (by omega))) ?_
    rintro _ s14 ⟨p12, c13, rfl, fs15⟩
    have ap16 : Apart (xs.length) (xs.length) p12 p := by simpa using Fsl.apart fs15 hs9 (fl_ne _)
    have ap17 : Apart (xs.length) (xs.length) p12 p4 := by simpa using Fsl.apart fs15 (Fsl.reads fs7) (fl_ne _)
    have hs18 := Sl.ext hs9 fs15.ext
    have hs19 := Sl.ext (Fsl.reads fs7) fs15.ext
    have mu20 := Mut.ext mu11 fs15.ext
    have ex21 := Ext.trans ex10 fs15.ext
    have mu22 := Fsl.mut fs15 (xs.length) (by simp)
    refine L.v (o_assign (v := (.slice p12 xs.length c13)) rfl) ?_
    refine L.nil ?_
    refine W.seq ?_
    refine W.region ?_
    refine L.v (o_move (v := (.slice p12 xs.length c13)) rfl) ?_
    refine L.v (v := (.tuple #[(.int .i64 (stepI xs)), (.bool (stepB xs))])) (op_call [(.slice p12 xs.length c13)] Try.call19 rfl (implSteps p12 c13 xs (Fsl.reads fs15))) ?_
    refine L.v (o_move (v := (.tuple #[(.int .i64 (stepI xs)), (.bool (stepB xs))])) rfl) ?_
    refine L.v (o_extract (vs := #[(.int .i64 (stepI xs)), (.bool (stepB xs))]) (v := (.int .i64 (stepI xs))) rfl rfl rfl) ?_
    refine L.v (o_extract (vs := #[(.int .i64 (stepI xs)), (.bool (stepB xs))]) (v := (.bool (stepB xs))) rfl rfl rfl) ?_
    refine L.v (o_assign (v := (.int .i64 (stepI xs))) rfl) ?_
    refine L.v (o_assign (v := (.bool (stepB xs))) rfl) ?_
    refine L.nil ?_
    refine W.seq ?_
    refine W.seq ?_
    refine W.region ?_
    refine L.v (o_move (v := (.int .i64 (stepI xs))) rfl) ?_
    refine L.v (o_move (v := (.int .i64 (stepI xs))) rfl) ?_
    refine L.v (o_ineq (a := stepI xs) (b := stepI xs) (c := false) rfl rfl (by simp)) ?_
    refine L.v (o_move (v := (.bool false)) rfl) ?_
    refine L.gv (j := 3) (d₁ := 27) (b := false) rfl rfl rfl rfl (o_move (v := (.bool (stepB xs))) rfl) ?_
    refine L.gv (j := 3) (d₁ := 27) (b := false) rfl rfl rfl rfl (o_move (v := (.bool (stepB xs))) rfl) ?_
    refine L.gv (j := 3) (d₁ := 27) (b := false) rfl rfl rfl rfl (o_bneq (a := stepB xs) (b := stepB xs) (c := false) Try.underlying4 rfl rfl (by simp)) ?_
    refine L.v (o_pickF (b := false) (v := (.bool false)) rfl rfl rfl) ?_
    refine L.nil ?_
    refine W.condF (b := false) rfl rfl ?_
    refine W.skip ?_
    refine W.seq ?_
    refine W.seq ?_
    refine W.region ?_
    refine L.v (o_move (v := (.slice p12 xs.length c13)) rfl) ?_
    refine L.v (o_move (v := (.slice p xs.length c)) rfl) ?_
    refine L.cons (op_call [(.slice p xs.length c)] Try.call12 rfl (toF32S p c xs hs18 (by omega))) ?_
    rintro _ s25 ⟨p23, c24, rfl, fs26⟩
    have ap27 : Apart (xs.length) (xs.length) p23 p := by simpa using Fsl.apart fs26 hs18 (fl_ne _)
    have ap28 : Apart (xs.length) (xs.length) p23 p4 := by simpa using Fsl.apart fs26 hs19 (fl_ne _)
    have ap29 : Apart (xs.length) (xs.length) p23 p12 := by simpa using Fsl.apart fs26 (Fsl.reads fs15) (fl_ne _)
    have hs30 := Sl.ext hs18 fs26.ext
    have hs31 := Sl.ext hs19 fs26.ext
    have mu32 := Mut.ext mu20 fs26.ext
    have hs33 := Sl.ext (Fsl.reads fs15) fs26.ext
    have mu34 := Mut.ext mu22 fs26.ext
    have ex35 := Ext.trans ex21 fs26.ext
    have mu36 := Fsl.mut fs26 (xs.length) (by simp)
    refine L.v (v := (.bool true)) (op_call [(.slice p12 xs.length c13), (.slice p23 xs.length c24)] Try.call15 rfl (eqF32S p12 p23 c13 c24 xs hs33 (Fsl.reads fs26) (by omega))) ?_
    refine L.v (o_not (b := true) (c := false) rfl rfl) ?_
    refine L.nil ?_
    refine W.condF (b := false) rfl rfl ?_
    refine W.skip ?_
    refine W.seq ?_
    refine W.region ?_
    refine L.v (o_assign (v := (.bool true)) rfl) ?_
    refine L.nil ?_
    refine W.ret ?_
    exact RetK.one _ (.bool true) rfl rfl (Ext.refl _) rfl

end Go.Proofs.Ytakeanehgfbbaaa.En
