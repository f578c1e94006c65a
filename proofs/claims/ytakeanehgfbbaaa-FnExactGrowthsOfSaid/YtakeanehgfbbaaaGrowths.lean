/- GrowthsOf in the program and in the reference, and its law: what each call gives, for every list that can be read. -/
import Derived.Test.YtakeanehgfbbaaaLibb
import Derived.Test.YtakeanehgfbbaaaRows
namespace Go.Proofs.Ytakeanehgfbbaaa.En
open Go
set_option linter.unusedVariables false
def growTo (xs : List Nat) (m : Nat) : List Nat := (List.range m).map fun j => fop .quo .f32 (xs.getD (j + 1) 0) (xs.getD j 0)
theorem growTo_succ (xs : List Nat) (m : Nat) : growTo xs (m + 1) = growTo xs m ++ [fop .quo .f32 (xs.getD (m + 1) 0) (xs.getD m 0)] := by
  simp [growTo, List.range_succ]
def growths (xs : List Nat) : List Nat := if xs.length ≤ 256 then growTo xs (xs.length - 1) else []
theorem growths_not {xs : List Nat} (h : ¬ xs.length ≤ 256) : growths xs = [] := if_neg h
theorem growths_yes {xs : List Nat} (h : xs.length ≤ 256) : growths xs = growTo xs (xs.length - 1) := if_pos h
theorem growths_len {xs : List Nat} (h : xs.length ≤ 256) : (growths xs).length = xs.length - 1 := by rw [growths_yes h]; simp [growTo]
theorem growths_le (xs : List Nat) : (growths xs).length ≤ 1048576 := by
  by_cases h : xs.length ≤ 256
  · rw [growths_len h]; omega
  · rw [growths_not h]; simp
theorem specGrowths {w0 : World} {σ : Sg} (p : Option Addr) (c : Nat) (xs : List Nat) (hs : Sl σ 1 p (xs.map fl)) :
    Fn Try.prog w0 20 [(.slice p xs.length c)] σ (RetFS w0 σ 1 ((growths xs).map fl) (growths xs).length (fun v => .tuple #[v, .bool (decide (xs.length ≤ 256))])) := by
  refine Fn.of_W 30 Try.func20 rfl Try.ntmps20 rfl ?_
  refine W.seq ?_
  refine W.region ?_
  refine L.v (o_assign (v := (.slice none 0 0)) rfl) ?_
  refine L.v (o_assign (v := (.bool false)) rfl) ?_
  refine L.nil ?_
  refine W.seq ?_
  refine W.seq ?_
  refine W.region ?_
  refine L.v (o_move (v := (.slice p xs.length c)) rfl) ?_
  refine L.v (o_len (p := p) (n := xs.length) (c := c) Try.underlying22 rfl) ?_
  refine L.v (o_igtr (a := (xs.length : Int)) (b := 256) rfl rfl rfl) ?_
  refine L.nil ?_
  refine W.cond (b := decide ((256 : Int) < (xs.length : Int))) rfl (fun q1 => ?_) (fun q1 => ?_)
  ·
    have a2 : (256 : Int) < (xs.length : Int) := of_decide_eq_true q1
    refine W.seq ?_
    refine W.region ?_
    refine L.v (o_assign (v := (.slice none 0 0)) rfl) ?_
    refine L.v (o_assign (v := (.bool false)) rfl) ?_
    refine L.nil ?_
    refine W.ret ?_
    exact RetK.two σ (.slice none 0 0) (.bool false) rfl rfl rfl rfl rfl (Ext.refl _) ⟨none, 0, by rw [growths_not (by omega)]; simp [decide_eq_false (show ¬ xs.length ≤ 256 by omega)], by rw [growths_not (by omega)]; exact Fsl.nil 1⟩
  ·
    have a3 : ¬ ((256 : Int) < (xs.length : Int)) := of_decide_eq_false q1
    refine W.skip ?_
    refine W.seq ?_
    refine W.region ?_
    refine L.cons (o_buildSlice (info := Try.t23) (z := .float .f32 0) [] Try.underlying22 Try.type23 rfl rfl rfl rfl (by decide) rfl rfl (by simp [Value.oneCell'])) ?_
    rintro _ _ ⟨b4, hf5, hw6, rfl, rfl⟩
    refine L.v (o_assign (v := (.slice (some ⟨b4, 0, none⟩) 0 0)) rfl) ?_
    refine L.nil ?_
    refine W.seq ?_
    refine W.seq ?_
    refine W.region ?_
    refine L.v (o_assign (v := (.int .i64 1)) rfl) ?_
    refine L.nil ?_
    refine W.block ?_
    have ho0 := Own.new (σ := σ) (e := 23) 1 hw6
    have hx0 : Ext σ (sg σ b4 (23, [])) := (Ext.refl _).sg hf5
    have hv0 := ownAt (n := 0) (c := 0) hf5
    refine W.loop (fun nn tt ss => ∃ (i : Nat) (v : Value), nn = xs.length - i ∧ 1 ≤ i ∧ (i ≤ xs.length ∨ i = 1) ∧ Own w0 ss 23 1 v (i - 1) ((growTo xs (i - 1)).map (Value.float .f32)) ∧ Ext σ ss ∧ (∀ b, v.ownBlock = some b → σ b = none) ∧ FrOk tt [(0, (.slice p xs.length c)), (4, v), (5, .int .i64 (i : Int))]) _ ⟨1, (.slice (some ⟨b4, 0, none⟩) 0 0), rfl, by omega, by omega, ho0, hx0, hv0, ⟨rfl, rfl, rfl, trivial⟩⟩ ?_
    rintro _ t1 s1 ⟨i, v, rfl, hi1, hi, ho, hx, hv, f1⟩
    rw [← frame_ok f1]
    show W _ _ _ _ _ (upd (upd (upd t1 0 (.slice p xs.length c)) 4 v) 5 (.int .i64 (i : Int))) _
    refine W.seq ?_
    refine W.seq ?_
    refine W.region ?_
    refine L.v (o_move (v := (.int .i64 (i : Int))) rfl) ?_
    refine L.v (o_move (v := (.slice p xs.length c)) rfl) ?_
    refine L.v (o_len (p := p) (n := xs.length) (c := c) Try.underlying22 rfl) ?_
    refine L.v (o_ilss (a := (i : Int)) (b := (xs.length : Int)) rfl rfl rfl) ?_
    refine L.nil ?_
    refine W.cond (b := decide (((i : Int) : Int) < (xs.length : Int))) rfl (fun q7 => ?_) (fun q7 => ?_)
    ·
      have a8 : ((i : Int) : Int) < (xs.length : Int) := of_decide_eq_true q7
      refine W.skip ?_
      refine W.seq ?_
      refine W.block ?_
      obtain ⟨b9, o10, rfl, _⟩ := hs.elem i (by omega) 0
      refine W.draw [true, true, true, true, true, true, true, true, true, true, true, false, false, true] (fun s => Ext σ s) (by kernel_rfl) (by kernel_rfl) ?_
      refine DL.v (fun _ hD => o_move (v := v) rfl) ?_
      refine DL.v (fun _ hD => o_move (v := (.slice (some ⟨b9, o10, none⟩) xs.length c)) rfl) ?_
      refine DL.v (fun _ hD => o_move (v := (.int .i64 (i : Int))) rfl) ?_
      refine DL.v (fun _ hD => o_indexAddr (b := b9) (off := o10) (n := xs.length) (c := c) i Try.underlying22 Try.sizeOf23 rfl rfl (by omega)) ?_
      refine DL.v (fun _ hD => o_load (b := b9) (off := o10 + i * 1) (v := (.float .f32 (xs.getD i 0))) Try.isAgg23 rfl (Rds.fst (Sl.at (Sl.ext hs hD) i (by omega) 0)) rfl) ?_
      refine DL.v (fun _ hD => o_move (v := (.slice (some ⟨b9, o10, none⟩) xs.length c)) rfl) ?_
      refine DL.v (fun _ hD => o_move (v := (.int .i64 (i : Int))) rfl) ?_
      refine DL.v (fun _ hD => o_isub (a := (i : Int)) (b := 1) (c := (i : Int) - 1) rfl rfl (by rw [IntWalk.i64_in _ (by omega)]; try omega)) ?_
      refine DL.v (fun _ hD => o_indexAddr (b := b9) (off := o10) (n := xs.length) (c := c) (i - 1) Try.underlying22 Try.sizeOf23 rfl (by exact congrArg (Value.int .i64) (show ((i : Int) - 1) = ((i - 1 : Nat) : Int) by omega)) (by omega)) ?_
      refine DL.v (fun _ hD => o_load (b := b9) (off := o10 + (i - 1) * 1) (v := (.float .f32 (xs.getD (i - 1) 0))) Try.isAgg23 rfl (Rds.fst (Sl.at (Sl.ext hs hD) (i - 1) (by omega) 0)) rfl) ?_
      refine DL.v (fun _ hD => o_farith (k := .f32) (a := xs.getD i 0) (b := xs.getD (i - 1) 0) rfl rfl rfl) ?_
      refine DL.e hx (o_buildSlice (info := Try.t23) (z := .float .f32 0) [(.float .f32 (fop .quo .f32 (xs.getD i 0) (xs.getD (i - 1) 0)))] Try.underlying22 Try.type23 rfl rfl rfl rfl (by decide) rfl rfl (by simp [Value.oneCell'])) ?_
      rintro _ _ ⟨b11, hf12, hw13, rfl, rfl⟩
      have hx14 := Ext.trans hx ((Ext.refl _).sg (x := (23, [(.float .f32 (fop .quo .f32 (xs.getD i 0) (xs.getD (i - 1) 0)))])) hf12)
      have ho15 := Own.ext ho ((Ext.refl _).sg (x := (23, [(.float .f32 (fop .quo .f32 (xs.getD i 0) (xs.getD (i - 1) 0)))])) hf12)
      refine DL.e hx14 (o_append (info := Try.t23) (z := .float .f32 0) (size := 1) (bytes := 4) (v := v) (n := (i - 1)) (m := 1) (c := 1) (b := b11) (off := 0) (xs := ((growTo xs (i - 1)).map (Value.float .f32))) (news := [(.float .f32 (fop .quo .f32 (xs.getD i 0) (xs.getD (i - 1) 0)))]) Try.underlying22 Try.type23 rfl rfl rfl rfl rfl ho15 rfl (by decide) rfl (Rds.of (sg_eq _ _ _) (by intro j v hj; simpa using hj)) (by simp [Value.oneCell']) (by unfold maxLen; omega) (by omega)) ?_
      rintro v16 s17 ⟨ho18, gr19⟩
      have hx20 := Grew.ext gr19 hx14 hv
      have hv21 := Grew.fresh gr19 hx14 hv
      refine DL.v (fun _ hD => o_assign (v := v16) rfl) ?_
      refine DL.nil hx20 ?_
      refine W.region ?_
      refine L.v (o_move (v := (.int .i64 (i : Int))) rfl) ?_
      refine L.v (o_iadd (a := (i : Int)) (b := 1) (c := ((i + 1 : Nat) : Int)) rfl rfl (by rw [IntWalk.i64_in _ (by omega)]; try omega)) ?_
      refine L.v (o_assign (v := (.int .i64 (((i + 1 : Nat) : Int)))) rfl) ?_
      refine L.nil ?_
      exact ⟨_, (by omega), i + 1, v16, rfl, by omega, by omega, by rw [show i + 1 - 1 = (i - 1) + 1 by omega, growTo_succ, List.map_append, List.map_singleton, show xs.getD (i - 1 + 1) 0 = xs.getD i 0 by rw [show i - 1 + 1 = i by omega]]; exact ho18, hx20, hv21, ⟨rfl, rfl, rfl, trivial⟩⟩
    ·
      have a22 : ¬ (((i : Int) : Int) < (xs.length : Int)) := of_decide_eq_false q7
      refine W.exit ?_
      refine W.seq ?_
      refine W.region ?_
      refine L.v (o_move (v := v) rfl) ?_
      refine L.v (o_assign (v := v) rfl) ?_
      refine L.v (o_assign (v := (.bool true)) rfl) ?_
      refine L.nil ?_
      refine W.ret ?_
      obtain ⟨p', c', hpc, hfs⟩ := Fsl.of_own (rows := (growths xs).map fl) (by rw [flat_fl, growths_yes (by omega), show xs.length - 1 = i - 1 by omega]; exact ho) (by rw [List.length_map, growths_len (by omega)]; omega) (by simp [fl]) hx hv
      rw [show i - 1 = (growths xs).length by rw [growths_len (by omega)]; omega] at hpc
      exact RetK.two s1 v (.bool true) rfl rfl rfl (by rw [hpc]; rfl) rfl (Ext.refl _) ⟨p', c', by rw [hpc]; simp [decide_eq_true (show xs.length ≤ 256 by omega)], hfs⟩

theorem implGrowths {w0 : World} {σ : Sg} (p : Option Addr) (c : Nat) (xs : List Nat) (hs : Sl σ 1 p (xs.map fl)) :
    Fn Try.prog w0 21 [(.slice p xs.length c)] σ (RetFS w0 σ 1 ((growths xs).map fl) (growths xs).length (fun v => .tuple #[v, .bool (decide (xs.length ≤ 256))])) := by
  refine Fn.of_W 29 Try.func21 rfl Try.ntmps21 rfl ?_
  refine W.seq ?_
  refine W.region ?_
  refine L.v (o_assign (v := (.slice none 0 0)) rfl) ?_
  refine L.v (o_assign (v := (.bool false)) rfl) ?_
  refine L.nil ?_
  refine W.seq ?_
  refine W.seq ?_
  refine W.region ?_
  refine L.v (o_move (v := (.slice p xs.length c)) rfl) ?_
  refine L.v (v := (.bool (decide ((xs.length : Int) ≤ 256)))) (op_call [(.slice p xs.length c)] Try.call33 rfl (isListF p xs.length c)) ?_
  refine L.v (o_not (b := decide ((xs.length : Int) ≤ 256)) rfl rfl) ?_
  refine L.nil ?_
  refine W.cond (b := !(decide ((xs.length : Int) ≤ 256))) rfl (fun q1 => ?_) (fun q1 => ?_)
  ·
    have a2 : ¬ ((xs.length : Int) ≤ 256) := of_decide_eq_false (bn_t q1)
    refine W.seq ?_
    refine W.region ?_
    refine L.v (o_assign (v := (.slice none 0 0)) rfl) ?_
    refine L.v (o_assign (v := (.bool false)) rfl) ?_
    refine L.nil ?_
    refine W.ret ?_
    exact RetK.two σ (.slice none 0 0) (.bool false) rfl rfl rfl rfl rfl (Ext.refl _) ⟨none, 0, by rw [growths_not (by omega)]; simp [decide_eq_false (show ¬ xs.length ≤ 256 by omega)], by rw [growths_not (by omega)]; exact Fsl.nil 1⟩
  ·
    have a3 : (xs.length : Int) ≤ 256 := of_decide_eq_true (bn_f q1)
    refine W.skip ?_
    refine W.seq ?_
    refine W.region ?_
    refine L.v (o_assign (v := (.slice none 0 0)) rfl) ?_
    refine L.nil ?_
    refine W.seq ?_
    refine W.seq ?_
    refine W.region ?_
    refine L.v (o_assign (v := (.int .i64 1)) rfl) ?_
    refine L.nil ?_
    refine W.block ?_
    have ho0 := Own.nil (w0 := w0) (σ := σ) 23 1
    have hx0 := Ext.refl σ
    have hv0 := ownNil (σ := σ)
    refine W.loop (fun nn tt ss => ∃ (i : Nat) (v : Value), nn = xs.length - i ∧ 1 ≤ i ∧ (i ≤ xs.length ∨ i = 1) ∧ Own w0 ss 23 1 v (i - 1) ((growTo xs (i - 1)).map (Value.float .f32)) ∧ Ext σ ss ∧ (∀ b, v.ownBlock = some b → σ b = none) ∧ FrOk tt [(0, (.slice p xs.length c)), (4, v), (5, .int .i64 (i : Int))]) _ ⟨1, (.slice none 0 0), rfl, by omega, by omega, ho0, hx0, hv0, ⟨rfl, rfl, rfl, trivial⟩⟩ ?_
    rintro _ t1 s1 ⟨i, v, rfl, hi1, hi, ho, hx, hv, f1⟩
    rw [← frame_ok f1]
    show W _ _ _ _ _ (upd (upd (upd t1 0 (.slice p xs.length c)) 4 v) 5 (.int .i64 (i : Int))) _
    refine W.seq ?_
    refine W.seq ?_
    refine W.region ?_
    refine L.v (o_move (v := (.int .i64 (i : Int))) rfl) ?_
    refine L.v (o_move (v := (.slice p xs.length c)) rfl) ?_
    refine L.v (o_len (p := p) (n := xs.length) (c := c) Try.underlying22 rfl) ?_
    refine L.v (o_ilss (a := (i : Int)) (b := (xs.length : Int)) rfl rfl rfl) ?_
    refine L.nil ?_
    refine W.cond (b := decide (((i : Int) : Int) < (xs.length : Int))) rfl (fun q4 => ?_) (fun q4 => ?_)
    ·
      have a5 : ((i : Int) : Int) < (xs.length : Int) := of_decide_eq_true q4
      refine W.skip ?_
      refine W.seq ?_
      refine W.block ?_
      obtain ⟨b6, o7, rfl, _⟩ := hs.elem i (by omega) 0
      refine W.draw [true, true, true, true, true, true, true, true, true, true, true, false, false, true] (fun s => Ext σ s) (by kernel_rfl) (by kernel_rfl) ?_
      refine DL.v (fun _ hD => o_move (v := v) rfl) ?_
      refine DL.v (fun _ hD => o_move (v := (.slice (some ⟨b6, o7, none⟩) xs.length c)) rfl) ?_
      refine DL.v (fun _ hD => o_move (v := (.int .i64 (i : Int))) rfl) ?_
      refine DL.v (fun _ hD => o_indexAddr (b := b6) (off := o7) (n := xs.length) (c := c) i Try.underlying22 Try.sizeOf23 rfl rfl (by omega)) ?_
      refine DL.v (fun _ hD => o_load (b := b6) (off := o7 + i * 1) (v := (.float .f32 (xs.getD i 0))) Try.isAgg23 rfl (Rds.fst (Sl.at (Sl.ext hs hD) i (by omega) 0)) rfl) ?_
      refine DL.v (fun _ hD => o_move (v := (.slice (some ⟨b6, o7, none⟩) xs.length c)) rfl) ?_
      refine DL.v (fun _ hD => o_move (v := (.int .i64 (i : Int))) rfl) ?_
      refine DL.v (fun _ hD => o_isub (a := (i : Int)) (b := 1) (c := (i : Int) - 1) rfl rfl (by rw [IntWalk.i64_in _ (by omega)]; try omega)) ?_
      refine DL.v (fun _ hD => o_indexAddr (b := b6) (off := o7) (n := xs.length) (c := c) (i - 1) Try.underlying22 Try.sizeOf23 rfl (by exact congrArg (Value.int .i64) (show ((i : Int) - 1) = ((i - 1 : Nat) : Int) by omega)) (by omega)) ?_
      refine DL.v (fun _ hD => o_load (b := b6) (off := o7 + (i - 1) * 1) (v := (.float .f32 (xs.getD (i - 1) 0))) Try.isAgg23 rfl (Rds.fst (Sl.at (Sl.ext hs hD) (i - 1) (by omega) 0)) rfl) ?_
      refine DL.v (fun _ hD => o_farith (k := .f32) (a := xs.getD i 0) (b := xs.getD (i - 1) 0) rfl rfl rfl) ?_
      refine DL.e hx (o_buildSlice (info := Try.t23) (z := .float .f32 0) [(.float .f32 (fop .quo .f32 (xs.getD i 0) (xs.getD (i - 1) 0)))] Try.underlying22 Try.type23 rfl rfl rfl rfl (by decide) rfl rfl (by simp [Value.oneCell'])) ?_
      rintro _ _ ⟨b8, hf9, hw10, rfl, rfl⟩
      have hx11 := Ext.trans hx ((Ext.refl _).sg (x := (23, [(.float .f32 (fop .quo .f32 (xs.getD i 0) (xs.getD (i - 1) 0)))])) hf9)
      have ho12 := Own.ext ho ((Ext.refl _).sg (x := (23, [(.float .f32 (fop .quo .f32 (xs.getD i 0) (xs.getD (i - 1) 0)))])) hf9)
      refine DL.e hx11 (o_append (info := Try.t23) (z := .float .f32 0) (size := 1) (bytes := 4) (v := v) (n := (i - 1)) (m := 1) (c := 1) (b := b8) (off := 0) (xs := ((growTo xs (i - 1)).map (Value.float .f32))) (news := [(.float .f32 (fop .quo .f32 (xs.getD i 0) (xs.getD (i - 1) 0)))]) Try.underlying22 Try.type23 rfl rfl rfl rfl rfl ho12 rfl (by decide) rfl (Rds.of (sg_eq _ _ _) (by intro j v hj; simpa using hj)) (by simp [Value.oneCell']) (by unfold maxLen; omega) (by omega)) ?_
      rintro v13 s14 ⟨ho15, gr16⟩
      have hx17 := Grew.ext gr16 hx11 hv
      have hv18 := Grew.fresh gr16 hx11 hv
      refine DL.v (fun _ hD => o_assign (v := v13) rfl) ?_
      refine DL.nil hx17 ?_
      refine W.region ?_
      refine L.v (o_move (v := (.int .i64 (i : Int))) rfl) ?_
      refine L.v (o_iadd (a := (i : Int)) (b := 1) (c := ((i + 1 : Nat) : Int)) rfl rfl (by rw [IntWalk.i64_in _ (by omega)]; try omega)) ?_
      refine L.v (o_assign (v := (.int .i64 (((i + 1 : Nat) : Int)))) rfl) ?_
      refine L.nil ?_
      exact ⟨_, (by omega), i + 1, v13, rfl, by omega, by omega, by rw [show i + 1 - 1 = (i - 1) + 1 by omega, growTo_succ, List.map_append, List.map_singleton, show xs.getD (i - 1 + 1) 0 = xs.getD i 0 by rw [show i - 1 + 1 = i by omega]]; exact ho15, hx17, hv18, ⟨rfl, rfl, rfl, trivial⟩⟩
    ·
      have a19 : ¬ (((i : Int) : Int) < (xs.length : Int)) := of_decide_eq_false q4
      refine W.exit ?_
      refine W.seq ?_
      refine W.region ?_
      refine L.v (o_move (v := v) rfl) ?_
      refine L.v (o_assign (v := v) rfl) ?_
      refine L.v (o_assign (v := (.bool true)) rfl) ?_
      refine L.nil ?_
      refine W.ret ?_
      obtain ⟨p', c', hpc, hfs⟩ := Fsl.of_own (rows := (growths xs).map fl) (by rw [flat_fl, growths_yes (by omega), show xs.length - 1 = i - 1 by omega]; exact ho) (by rw [List.length_map, growths_len (by omega)]; omega) (by simp [fl]) hx hv
      rw [show i - 1 = (growths xs).length by rw [growths_len (by omega)]; omega] at hpc
      exact RetK.two s1 v (.bool true) rfl rfl rfl (by rw [hpc]; rfl) rfl (Ext.refl _) ⟨p', c', by rw [hpc]; simp [decide_eq_true (show xs.length ≤ 256 by omega)], hfs⟩

theorem lawGrowths {w0 : World} {σ : Sg} (p : Option Addr) (c : Nat) (xs : List Nat) (hs : Sl σ 1 p (xs.map fl)) :
    Fn Try.prog w0 6 [(.slice p xs.length c)] σ (fun u _ => u = .bool true) := by
  refine Fn.of_W 93 Try.func6 rfl Try.ntmps6 rfl ?_
  refine W.seq ?_
  refine W.region ?_
  refine L.v (o_assign (v := (.bool false)) rfl) ?_
  refine L.nil ?_
  refine W.seq ?_
  refine W.seq ?_
  refine W.region ?_
  refine L.v (o_move (v := (.slice p xs.length c)) rfl) ?_
  refine L.v (o_len (p := p) (n := xs.length) (c := c) Try.underlying22 rfl) ?_
  refine L.v (o_igtr (a := (xs.length : Int)) (b := 1048576) rfl rfl rfl) ?_
  refine L.nil ?_
  refine W.cond (b := decide ((1048576 : Int) < (xs.length : Int))) rfl (fun q1 => ?_) (fun q1 => ?_)
  ·
    have a2 : (1048576 : Int) < (xs.length : Int) := of_decide_eq_true q1
    refine W.seq ?_
    refine W.region ?_
    refine L.v (o_assign (v := (.bool true)) rfl) ?_
    refine L.nil ?_
    refine W.ret ?_
    exact RetK.one _ (.bool true) rfl rfl (Ext.refl _) rfl
  ·
    have a3 : ¬ ((1048576 : Int) < (xs.length : Int)) := of_decide_eq_false q1
    refine W.skip ?_
    refine W.seq ?_
    refine W.region ?_
    refine L.v (o_move (v := (.slice p xs.length c)) rfl) ?_
    refine L.cons (op_call [(.slice p xs.length c)] Try.call12 rfl (toF32S p c xs hs (by omega))) ?_
    rintro _ s6 ⟨p4, c5, rfl, fs7⟩
    have ap8 : Apart (xs.length) (xs.length) p4 p := by simpa using Fsl.apart fs7 hs (fl_ne _)
    have hs9 := Sl.ext hs fs7.ext
    have ex10 := Ext.trans (Ext.refl σ) fs7.ext
    have mu11 := Fsl.mut fs7 (xs.length) (by simp)
    refine L.cons (op_call [(.slice p4 xs.length c5)] Try.call20 rfl (specGrowths p4 c5 xs (Fsl.reads fs7))) ?_
    rintro _ s14 ⟨p12, c13, rfl, fs15⟩
    have ap16 : Apart ((growths xs).length) (xs.length) p12 p := by simpa using Fsl.apart fs15 hs9 (fl_ne _)
    have ap17 : Apart ((growths xs).length) (xs.length) p12 p4 := by simpa using Fsl.apart fs15 (Fsl.reads fs7) (fl_ne _)
    have hs18 := Sl.ext hs9 fs15.ext
    have hs19 := Sl.ext (Fsl.reads fs7) fs15.ext
    have mu20 := Mut.ext mu11 fs15.ext
    have ex21 := Ext.trans ex10 fs15.ext
    have mu22 := Fsl.mut fs15 ((growths xs).length) (by simp)
    refine L.v (o_move (v := (.tuple #[(.slice p12 ((growths xs).length) c13), (.bool (decide (xs.length ≤ 256)))])) rfl) ?_
    refine L.v (o_extract (vs := #[(.slice p12 ((growths xs).length) c13), (.bool (decide (xs.length ≤ 256)))]) (v := (.slice p12 ((growths xs).length) c13)) rfl rfl rfl) ?_
    refine L.v (o_extract (vs := #[(.slice p12 ((growths xs).length) c13), (.bool (decide (xs.length ≤ 256)))]) (v := (.bool (decide (xs.length ≤ 256)))) rfl rfl rfl) ?_
    refine L.v (o_assign (v := (.slice p12 ((growths xs).length) c13)) rfl) ?_
    refine L.v (o_assign (v := (.bool (decide (xs.length ≤ 256)))) rfl) ?_
    refine L.nil ?_
    refine W.seq ?_
    refine W.region ?_
    refine L.v (o_move (v := (.slice p xs.length c)) rfl) ?_
    refine L.cons (op_call [(.slice p xs.length c)] Try.call12 rfl (toF32S p c xs hs18 (by omega))) ?_
    rintro _ s25 ⟨p23, c24, rfl, fs26⟩
    have ap27 : Apart (xs.length) (xs.length) p23 p := by simpa using Fsl.apart fs26 hs18 (fl_ne _)
    have ap28 : Apart (xs.length) (xs.length) p23 p4 := by simpa using Fsl.apart fs26 hs19 (fl_ne _)
    have ap29 : Apart (xs.length) ((growths xs).length) p23 p12 := by simpa using Fsl.apart fs26 (Fsl.reads fs15) (fl_ne _)
    have hs30 := Sl.ext hs18 fs26.ext
    have hs31 := Sl.ext hs19 fs26.ext
    have mu32 := Mut.ext mu20 fs26.ext
    have hs33 := Sl.ext (Fsl.reads fs15) fs26.ext
    have mu34 := Mut.ext mu22 fs26.ext
    have ex35 := Ext.trans ex21 fs26.ext
    have mu36 := Fsl.mut fs26 (xs.length) (by simp)
    refine L.v (o_assign (v := (.slice p23 xs.length c24)) rfl) ?_
    refine L.nil ?_
    refine W.seq ?_
    refine W.region ?_
    refine L.v (o_move (v := (.slice p23 xs.length c24)) rfl) ?_
    refine L.cons (op_call [(.slice p23 xs.length c24)] Try.call21 rfl (implGrowths p23 c24 xs (Fsl.reads fs26))) ?_
    rintro _ s39 ⟨p37, c38, rfl, fs40⟩
    have ap41 : Apart ((growths xs).length) (xs.length) p37 p := by simpa using Fsl.apart fs40 hs30 (fl_ne _)
    have ap42 : Apart ((growths xs).length) (xs.length) p37 p4 := by simpa using Fsl.apart fs40 hs31 (fl_ne _)
    have ap43 : Apart ((growths xs).length) ((growths xs).length) p37 p12 := by simpa using Fsl.apart fs40 hs33 (fl_ne _)
    have ap44 : Apart ((growths xs).length) (xs.length) p37 p23 := by simpa using Fsl.apart fs40 (Fsl.reads fs26) (fl_ne _)
    have hs45 := Sl.ext hs30 fs40.ext
    have hs46 := Sl.ext hs31 fs40.ext
    have mu47 := Mut.ext mu32 fs40.ext
    have hs48 := Sl.ext hs33 fs40.ext
    have mu49 := Mut.ext mu34 fs40.ext
    have hs50 := Sl.ext (Fsl.reads fs26) fs40.ext
    have mu51 := Mut.ext mu36 fs40.ext
    have ex52 := Ext.trans ex35 fs40.ext
    have mu53 := Fsl.mut fs40 ((growths xs).length) (by simp)
    refine L.v (o_move (v := (.tuple #[(.slice p37 ((growths xs).length) c38), (.bool (decide (xs.length ≤ 256)))])) rfl) ?_
    refine L.v (o_extract (vs := #[(.slice p37 ((growths xs).length) c38), (.bool (decide (xs.length ≤ 256)))]) (v := (.slice p37 ((growths xs).length) c38)) rfl rfl rfl) ?_
    refine L.v (o_extract (vs := #[(.slice p37 ((growths xs).length) c38), (.bool (decide (xs.length ≤ 256)))]) (v := (.bool (decide (xs.length ≤ 256)))) rfl rfl rfl) ?_
    refine L.v (o_assign (v := (.slice p37 ((growths xs).length) c38)) rfl) ?_
    refine L.v (o_assign (v := (.bool (decide (xs.length ≤ 256)))) rfl) ?_
    refine L.nil ?_
    refine W.seq ?_
    refine W.seq ?_
    refine W.region ?_
    refine L.v (o_move (v := (.slice p37 ((growths xs).length) c38)) rfl) ?_
    refine L.v (o_move (v := (.slice p12 ((growths xs).length) c13)) rfl) ?_
    refine L.v (v := (.bool true)) (op_call [(.slice p37 ((growths xs).length) c38), (.slice p12 ((growths xs).length) c13)] Try.call15 rfl (eqF32S p37 p12 c38 c13 (growths xs) (Fsl.reads fs40) hs48 (by first | omega | exact growths_le _))) ?_
    refine L.v (o_not (b := true) (c := false) rfl rfl) ?_
    refine L.v (o_move (v := (.bool false)) rfl) ?_
    refine L.gv (j := 4) (d₁ := 33) (b := false) rfl rfl rfl rfl (o_move (v := (.bool (decide (xs.length ≤ 256)))) rfl) ?_
    refine L.gv (j := 4) (d₁ := 33) (b := false) rfl rfl rfl rfl (o_move (v := (.bool (decide (xs.length ≤ 256)))) rfl) ?_
    refine L.gv (j := 4) (d₁ := 33) (b := false) rfl rfl rfl rfl (o_bneq (a := decide (xs.length ≤ 256)) (b := decide (xs.length ≤ 256)) (c := false) Try.underlying4 rfl rfl (by simp)) ?_
    refine L.v (o_pickF (b := false) (v := (.bool false)) rfl rfl rfl) ?_
    refine L.nil ?_
    refine W.condF (b := false) rfl rfl ?_
    refine W.skip ?_
    refine W.seq ?_
    refine W.seq ?_
    refine W.region ?_
    refine L.v (o_move (v := (.slice p23 xs.length c24)) rfl) ?_
    refine L.v (o_move (v := (.slice p xs.length c)) rfl) ?_
    refine L.cons (op_call [(.slice p xs.length c)] Try.call12 rfl (toF32S p c xs hs45 (by omega))) ?_
    rintro _ s56 ⟨p54, c55, rfl, fs57⟩
    have ap58 : Apart (xs.length) (xs.length) p54 p := by simpa using Fsl.apart fs57 hs45 (fl_ne _)
    have ap59 : Apart (xs.length) (xs.length) p54 p4 := by simpa using Fsl.apart fs57 hs46 (fl_ne _)
    have ap60 : Apart (xs.length) ((growths xs).length) p54 p12 := by simpa using Fsl.apart fs57 hs48 (fl_ne _)
    have ap61 : Apart (xs.length) (xs.length) p54 p23 := by simpa using Fsl.apart fs57 hs50 (fl_ne _)
    have ap62 : Apart (xs.length) ((growths xs).length) p54 p37 := by simpa using Fsl.apart fs57 (Fsl.reads fs40) (fl_ne _)
    have hs63 := Sl.ext hs45 fs57.ext
    have hs64 := Sl.ext hs46 fs57.ext
    have mu65 := Mut.ext mu47 fs57.ext
    have hs66 := Sl.ext hs48 fs57.ext
    have mu67 := Mut.ext mu49 fs57.ext
    have hs68 := Sl.ext hs50 fs57.ext
    have mu69 := Mut.ext mu51 fs57.ext
    have hs70 := Sl.ext (Fsl.reads fs40) fs57.ext
    have mu71 := Mut.ext mu53 fs57.ext
    have ex72 := Ext.trans ex52 fs57.ext
    have mu73 := Fsl.mut fs57 (xs.length) (by simp)
    refine L.v (v := (.bool true)) (op_call [(.slice p23 xs.length c24), (.slice p54 xs.length c55)] Try.call15 rfl (eqF32S p23 p54 c24 c55 xs hs68 (Fsl.reads fs57) (by first | omega | exact growths_le _))) ?_
    refine L.v (o_not (b := true) (c := false) rfl rfl) ?_
    refine L.nil ?_
    refine W.condF (b := false) rfl rfl ?_
    refine W.skip ?_
    refine W.seq ?_
    refine W.region ?_
    refine L.v (o_assign (v := (.int .i64 1)) rfl) ?_
    refine L.nil ?_
    refine W.seq ?_
    refine W.region ?_
    refine L.v (o_move (v := (.slice p23 xs.length c24)) rfl) ?_
    refine L.v (o_move (v := (.int .i64 1)) rfl) ?_
    refine L.cons (op_call [(.slice p23 xs.length c24), (.int .i64 1)] Try.call22 rfl (markF p23 xs.length c24 1 mu69 (by first | omega | exact growths_le _) (by omega))) ?_
    rintro _ s74 ⟨rfl, mk75, sl76⟩
    have hs77 := Sl.mkd hs63 mk75 (by simpa using ap27)
    have hs78 := Sl.mkd hs64 mk75 (by simpa using ap28)
    have mu79 := Mut.mkd mu65 mk75 ap28 (by simp)
    have hs80 := Sl.mkd hs66 mk75 (by simpa using ap29)
    have mu81 := Mut.mkd mu67 mk75 ap29 (by simp)
    have hs82 := Sl.mkd hs70 mk75 (by simpa using (Apart.symm ap44))
    have mu83 := Mut.mkd mu71 mk75 (Apart.symm ap44) (by simp)
    have hs84 := Sl.mkd (Fsl.reads fs57) mk75 (by simpa using (Apart.symm ap61))
    have mu85 := Mut.mkd mu73 mk75 (Apart.symm ap61) (by simp)
    refine L.v (o_assign (v := (.int .i64 (1 + (xs.length : Int)))) rfl) ?_
    refine L.nil ?_
    refine W.seq ?_
    refine W.seq ?_
    refine W.region ?_
    refine L.v (o_move (v := (.int .i64 (1 + (xs.length : Int)))) rfl) ?_
    refine L.v (o_ilss (a := 1 + (xs.length : Int)) (b := 0) rfl rfl rfl) ?_
    refine L.v (o_move (v := (.bool (decide ((1 + (xs.length : Int) : Int) < 0)))) rfl) ?_
    refine L.gv (j := 2) (d₁ := 48) (b := decide ((1 + (xs.length : Int) : Int) < 0)) rfl rfl rfl (decide_eq_false (by omega)) (o_move (v := (.slice p37 ((growths xs).length) c38)) rfl) ?_
    refine L.gv (j := 2) (d₁ := 48) (b := decide ((1 + (xs.length : Int) : Int) < 0)) rfl rfl rfl (decide_eq_false (by omega)) (o_move (v := (.slice p12 ((growths xs).length) c13)) rfl) ?_
    refine L.gv (j := 2) (d₁ := 48) (b := decide ((1 + (xs.length : Int) : Int) < 0)) rfl rfl rfl (decide_eq_false (by omega)) (v := (.bool true)) (op_call [(.slice p37 ((growths xs).length) c38), (.slice p12 ((growths xs).length) c13)] Try.call15 rfl (eqF32S p37 p12 c38 c13 (growths xs) hs82 hs80 (by first | omega | exact growths_le _))) ?_
    refine L.gv (j := 2) (d₁ := 48) (b := decide ((1 + (xs.length : Int) : Int) < 0)) rfl rfl rfl (decide_eq_false (by omega)) (o_not (b := true) (c := false) rfl rfl) ?_
    refine L.v (o_pickF (b := decide ((1 + (xs.length : Int) : Int) < 0)) (v := (.bool false)) rfl (decide_eq_false (by omega)) rfl) ?_
    refine L.v (o_move (v := (.bool false)) rfl) ?_
    refine L.gv (j := 8) (d₁ := 54) (b := false) rfl rfl rfl rfl (o_move (v := (.bool (decide (xs.length ≤ 256)))) rfl) ?_
    refine L.gv (j := 8) (d₁ := 54) (b := false) rfl rfl rfl rfl (o_move (v := (.bool (decide (xs.length ≤ 256)))) rfl) ?_
    refine L.gv (j := 8) (d₁ := 54) (b := false) rfl rfl rfl rfl (o_bneq (a := decide (xs.length ≤ 256)) (b := decide (xs.length ≤ 256)) (c := false) Try.underlying4 rfl rfl (by simp)) ?_
    refine L.v (o_pickF (b := false) (v := (.bool false)) rfl rfl rfl) ?_
    refine L.nil ?_
    refine W.condF (b := false) rfl rfl ?_
    refine W.skip ?_
    refine W.seq ?_
    refine W.region ?_
    refine L.v (o_assign (v := (.int .i64 1)) rfl) ?_
    refine L.nil ?_
    refine W.seq ?_
    refine W.region ?_
    refine L.v (o_move (v := (.slice p37 ((growths xs).length) c38)) rfl) ?_
    refine L.v (o_move (v := (.int .i64 1)) rfl) ?_
    refine L.cons (op_call [(.slice p37 ((growths xs).length) c38), (.int .i64 1)] Try.call22 rfl (markF p37 ((growths xs).length) c38 1 mu83 (by first | omega | exact growths_le _) (by omega))) ?_
    rintro _ s86 ⟨rfl, mk87, sl88⟩
    have hs89 := Sl.mkd hs77 mk87 (by simpa using ap41)
    have hs90 := Sl.mkd hs78 mk87 (by simpa using ap42)
    have mu91 := Mut.mkd mu79 mk87 ap42 (by simp)
    have hs92 := Sl.mkd hs80 mk87 (by simpa using ap43)
    have mu93 := Mut.mkd mu81 mk87 ap43 (by simp)
    have hs94 := Sl.mkd sl76 mk87 (by simpa using ap44)
    have hs95 := Sl.mkd hs84 mk87 (by simpa using (Apart.symm ap62))
    have mu96 := Mut.mkd mu85 mk87 (Apart.symm ap62) (by simp)
    refine L.v (o_assign (v := (.int .i64 (1 + (((growths xs).length : Nat) : Int)))) rfl) ?_
    refine L.nil ?_
    refine W.seq ?_
    refine W.region ?_
    refine L.v (o_assign (v := (.int .i64 1)) rfl) ?_
    refine L.nil ?_
    refine W.seq ?_
    refine W.region ?_
    refine L.v (o_move (v := (.slice p37 ((growths xs).length) c38)) rfl) ?_
    refine L.v (o_move (v := (.int .i64 1)) rfl) ?_
    refine L.v (v := (.int .i64 (1 + (((growths xs).length : Nat) : Int)))) (op_call [(.slice p37 ((growths xs).length) c38), (.int .i64 1)] Try.call23 rfl (heldF p37 ((growths xs).length) c38 1 sl88 (by first | omega | exact growths_le _) (by omega))) ?_
    refine L.v (o_assign (v := (.int .i64 (1 + (((growths xs).length : Nat) : Int)))) rfl) ?_
    refine L.nil ?_
    refine W.seq ?_
    refine W.seq ?_
    refine W.region ?_
    refine L.v (o_move (v := (.int .i64 (1 + (((growths xs).length : Nat) : Int)))) rfl) ?_
    refine L.v (o_ilss (a := 1 + (((growths xs).length : Nat) : Int)) (b := 0) rfl rfl rfl) ?_
    refine L.nil ?_
    refine W.condF (b := decide ((1 + (((growths xs).length : Nat) : Int) : Int) < 0)) rfl (decide_eq_false (by omega)) ?_
    refine W.skip ?_
    refine W.seq ?_
    refine W.seq ?_
    refine W.region ?_
    refine L.v (o_move (v := (.int .i64 (1 + (((growths xs).length : Nat) : Int)))) rfl) ?_
    refine L.v (o_move (v := (.int .i64 (1 + (((growths xs).length : Nat) : Int)))) rfl) ?_
    refine L.v (o_ineq (a := 1 + (((growths xs).length : Nat) : Int)) (b := 1 + (((growths xs).length : Nat) : Int)) (c := false) rfl rfl (by simp)) ?_
    refine L.nil ?_
    refine W.condF (b := false) rfl rfl ?_
    refine W.skip ?_
    refine W.seq ?_
    refine W.region ?_
    refine L.v (o_move (v := (.slice p xs.length c)) rfl) ?_
    refine L.cons (op_call [(.slice p xs.length c)] Try.call12 rfl (toF32S p c xs hs89 (by omega))) ?_
    rintro _ s99 ⟨p97, c98, rfl, fs100⟩
    have ap101 : Apart (xs.length) (xs.length) p97 p := by simpa using Fsl.apart fs100 hs89 (fl_ne _)
    have ap102 : Apart (xs.length) (xs.length) p97 p4 := by simpa using Fsl.apart fs100 hs90 (fl_ne _)
    have ap103 : Apart (xs.length) ((growths xs).length) p97 p12 := by simpa using Fsl.apart fs100 hs92 (fl_ne _)
    have ap104 : Apart (xs.length) (xs.length) p97 p23 := by simpa using Fsl.apart fs100 hs94 (marks32_ne _ _)
    have ap105 : Apart (xs.length) ((growths xs).length) p97 p37 := by simpa using Fsl.apart fs100 sl88 (marks32_ne _ _)
    have ap106 : Apart (xs.length) (xs.length) p97 p54 := by simpa using Fsl.apart fs100 hs95 (fl_ne _)
    have hs107 := Sl.ext hs89 fs100.ext
    have hs108 := Sl.ext hs90 fs100.ext
    have mu109 := Mut.ext mu91 fs100.ext
    have hs110 := Sl.ext hs92 fs100.ext
    have mu111 := Mut.ext mu93 fs100.ext
    have hs112 := Sl.ext hs94 fs100.ext
    have hs113 := Sl.ext sl88 fs100.ext
    have hs114 := Sl.ext hs95 fs100.ext
    have mu115 := Mut.ext mu96 fs100.ext
    have mu116 := Fsl.mut fs100 (xs.length) (by simp)
    refine L.cons (op_call [(.slice p97 xs.length c98)] Try.call21 rfl (implGrowths p97 c98 xs (Fsl.reads fs100))) ?_
    rintro _ s119 ⟨p117, c118, rfl, fs120⟩
    have ap121 : Apart ((growths xs).length) (xs.length) p117 p := by simpa using Fsl.apart fs120 hs107 (fl_ne _)
    have ap122 : Apart ((growths xs).length) (xs.length) p117 p4 := by simpa using Fsl.apart fs120 hs108 (fl_ne _)
    have ap123 : Apart ((growths xs).length) ((growths xs).length) p117 p12 := by simpa using Fsl.apart fs120 hs110 (fl_ne _)
    have ap124 : Apart ((growths xs).length) (xs.length) p117 p23 := by simpa using Fsl.apart fs120 hs112 (marks32_ne _ _)
    have ap125 : Apart ((growths xs).length) ((growths xs).length) p117 p37 := by simpa using Fsl.apart fs120 hs113 (marks32_ne _ _)
    have ap126 : Apart ((growths xs).length) (xs.length) p117 p54 := by simpa using Fsl.apart fs120 hs114 (fl_ne _)
    have ap127 : Apart ((growths xs).length) (xs.length) p117 p97 := by simpa using Fsl.apart fs120 (Fsl.reads fs100) (fl_ne _)
    have hs128 := Sl.ext hs107 fs120.ext
    have hs129 := Sl.ext hs108 fs120.ext
    have mu130 := Mut.ext mu109 fs120.ext
    have hs131 := Sl.ext hs110 fs120.ext
    have mu132 := Mut.ext mu111 fs120.ext
    have hs133 := Sl.ext hs112 fs120.ext
    have hs134 := Sl.ext hs113 fs120.ext
    have hs135 := Sl.ext hs114 fs120.ext
    have mu136 := Mut.ext mu115 fs120.ext
    have hs137 := Sl.ext (Fsl.reads fs100) fs120.ext
    have mu138 := Mut.ext mu116 fs120.ext
    have mu139 := Fsl.mut fs120 ((growths xs).length) (by simp)
    refine L.v (o_move (v := (.tuple #[(.slice p117 ((growths xs).length) c118), (.bool (decide (xs.length ≤ 256)))])) rfl) ?_
    refine L.v (o_extract (vs := #[(.slice p117 ((growths xs).length) c118), (.bool (decide (xs.length ≤ 256)))]) (v := (.slice p117 ((growths xs).length) c118)) rfl rfl rfl) ?_
    refine L.v (o_extract (vs := #[(.slice p117 ((growths xs).length) c118), (.bool (decide (xs.length ≤ 256)))]) (v := (.bool (decide (xs.length ≤ 256)))) rfl rfl rfl) ?_
    refine L.v (o_assign (v := (.slice p117 ((growths xs).length) c118)) rfl) ?_
    refine L.v (o_assign (v := (.bool (decide (xs.length ≤ 256)))) rfl) ?_
    refine L.nil ?_
    refine W.seq ?_
    refine W.seq ?_
    refine W.region ?_
    refine L.v (o_move (v := (.slice p117 ((growths xs).length) c118)) rfl) ?_
    refine L.v (o_move (v := (.slice p12 ((growths xs).length) c13)) rfl) ?_
    refine L.v (v := (.bool true)) (op_call [(.slice p117 ((growths xs).length) c118), (.slice p12 ((growths xs).length) c13)] Try.call15 rfl (eqF32S p117 p12 c118 c13 (growths xs) (Fsl.reads fs120) hs131 (by first | omega | exact growths_le _))) ?_
    refine L.v (o_not (b := true) (c := false) rfl rfl) ?_
    refine L.v (o_move (v := (.bool false)) rfl) ?_
    refine L.gv (j := 4) (d₁ := 80) (b := false) rfl rfl rfl rfl (o_move (v := (.bool (decide (xs.length ≤ 256)))) rfl) ?_
    refine L.gv (j := 4) (d₁ := 80) (b := false) rfl rfl rfl rfl (o_move (v := (.bool (decide (xs.length ≤ 256)))) rfl) ?_
    refine L.gv (j := 4) (d₁ := 80) (b := false) rfl rfl rfl rfl (o_bneq (a := decide (xs.length ≤ 256)) (b := decide (xs.length ≤ 256)) (c := false) Try.underlying4 rfl rfl (by simp)) ?_
    refine L.v (o_pickF (b := false) (v := (.bool false)) rfl rfl rfl) ?_
    refine L.nil ?_
    refine W.condF (b := false) rfl rfl ?_
    refine W.skip ?_
    refine W.seq ?_
    refine W.region ?_
    refine L.v (o_assign (v := (.int .i64 1)) rfl) ?_
    refine L.nil ?_
    refine W.seq ?_
    refine W.region ?_
    refine L.v (o_move (v := (.slice p37 ((growths xs).length) c38)) rfl) ?_
    refine L.v (o_move (v := (.int .i64 1)) rfl) ?_
    refine L.v (v := (.int .i64 (1 + (((growths xs).length : Nat) : Int)))) (op_call [(.slice p37 ((growths xs).length) c38), (.int .i64 1)] Try.call23 rfl (heldF p37 ((growths xs).length) c38 1 hs134 (by first | omega | exact growths_le _) (by omega))) ?_
    refine L.v (o_assign (v := (.int .i64 (1 + (((growths xs).length : Nat) : Int)))) rfl) ?_
    refine L.nil ?_
    refine W.seq ?_
    refine W.seq ?_
    refine W.region ?_
    refine L.v (o_move (v := (.int .i64 (1 + (((growths xs).length : Nat) : Int)))) rfl) ?_
    refine L.v (o_ilss (a := 1 + (((growths xs).length : Nat) : Int)) (b := 0) rfl rfl rfl) ?_
    refine L.nil ?_
    refine W.condF (b := decide ((1 + (((growths xs).length : Nat) : Int) : Int) < 0)) rfl (decide_eq_false (by omega)) ?_
    refine W.skip ?_
    refine W.seq ?_
    refine W.seq ?_
    refine W.region ?_
    refine L.v (o_move (v := (.int .i64 (1 + (((growths xs).length : Nat) : Int)))) rfl) ?_
    refine L.v (o_move (v := (.int .i64 (1 + (((growths xs).length : Nat) : Int)))) rfl) ?_
    refine L.v (o_ineq (a := 1 + (((growths xs).length : Nat) : Int)) (b := 1 + (((growths xs).length : Nat) : Int)) (c := false) rfl rfl (by simp)) ?_
    refine L.nil ?_
    refine W.condF (b := false) rfl rfl ?_
    refine W.skip ?_
    refine W.seq ?_
    refine W.region ?_
    refine L.v (o_assign (v := (.bool true)) rfl) ?_
    refine L.nil ?_
    refine W.ret ?_
    exact RetK.one _ (.bool true) rfl rfl (Ext.refl _) rfl

end Go.Proofs.Ytakeanehgfbbaaa.En
