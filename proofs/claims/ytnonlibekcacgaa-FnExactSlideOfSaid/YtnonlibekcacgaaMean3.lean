/- What makes a field; the mean of its columns in the program and in the reference. -/
import Derived.Test.YtnonlibekcacgaaEngX
import Derived.Test.YtnonlibekcacgaaSpec
import Derived.Test.YtnonlibekcacgaaRows
namespace Go.Proofs.Ytnonlibekcacgaa.En
open Go
set_option linter.unusedVariables false
set_option maxRecDepth 100000
def colSum (xs : List Nat) (w x : Nat) : Nat → Nat
  | 0 => 0
  | k + 1 => fop .add .f32 (colSum xs w x k) (xs.getD (x + w * k) 0)
def meanTo (xs : List Nat) (w h n : Nat) : List Nat := (List.range n).map fun x => fop .quo .f32 (colSum xs w x h) (FloatKind.nearest .f32 (h : Int))
theorem meanTo_succ (xs : List Nat) (w h n : Nat) : meanTo xs w h (n + 1) = meanTo xs w h n ++ [fop .quo .f32 (colSum xs w n h) (FloatKind.nearest .f32 (h : Int))] := by simp [meanTo, List.range_succ]
theorem meanTo_len (xs : List Nat) (w h n : Nat) : (meanTo xs w h n).length = n := by simp [meanTo]
def mo (xs : List Nat) (w h i : Nat) : List Nat := meanTo xs w h i ++ List.replicate (w - i) 0
theorem mo_init (xs : List Nat) (w h : Nat) : mo xs w h 0 = List.replicate w 0 := by simp [mo, meanTo]
theorem mo_full (xs : List Nat) (w h : Nat) : mo xs w h w = meanTo xs w h w := by simp [mo]
theorem mo_len {xs : List Nat} {w h i : Nat} (hi : i ≤ w) : (mo xs w h i).length = w := by rw [mo, List.length_append, meanTo_len, List.length_replicate]; omega
theorem mo_set {xs : List Nat} {w h i c : Nat} (hi : i < w) : (mo xs w h i).set i c = meanTo xs w h i ++ c :: List.replicate (w - (i + 1)) 0 := by
  rw [mo, List.set_append_right _ _ (by rw [meanTo_len]; omega), meanTo_len, Nat.sub_self, show w - i = (w - (i + 1)) + 1 by omega, List.replicate_succ, List.set_cons_zero]
theorem mo_zero {xs : List Nat} {w h i : Nat} (hi : i < w) : (mo xs w h i).set i (colSum xs w i 0) = mo xs w h i := by
  rw [mo_set hi, mo, show w - i = (w - (i + 1)) + 1 by omega, List.replicate_succ]; rfl
theorem mo_step {xs : List Nat} {w h i : Nat} (hi : i < w) : (mo xs w h i).set i (fop .quo .f32 (colSum xs w i h) (FloatKind.nearest .f32 (h : Int))) = mo xs w h (i + 1) := by
  rw [mo_set hi, mo, meanTo_succ, List.append_assoc]; rfl
theorem col_rd {s : Sg} {ob T w h i c : Nat} {xs : List Nat} (hi : i < w) : Rd (sg s ob (T, ((mo xs w h i).set i c).map (Value.float .f32))) ob (0 + i * 1) (.float .f32 c) :=
  Rd.of (sg_eq _ _ _) (by rw [show 0 + i * 1 = i by omega, mo_set hi, List.getElem?_map, List.getElem?_append_right (by rw [meanTo_len]; omega), meanTo_len, Nat.sub_self]; rfl)
theorem mod4 {x w : Nat} (h : x < w) : (((x + 4 * w : Nat) : Int)).tmod (w : Int) = (x : Int) := by
  rw [← Int.ofNat_tmod, Nat.add_mul_mod_self_right, Nat.mod_eq_of_lt h]
def meanC (gx gy : Int) (xs : List Nat) : Prop := ((4 ≤ gx ∧ gx ≤ 16) ∧ 4 ≤ gy ∧ gy ≤ 16) ∧ (xs.length : Int) = gx * gy
instance (gx gy : Int) (xs : List Nat) : Decidable (meanC gx gy xs) := by unfold meanC; infer_instance
def meanF (gx gy : Int) (xs : List Nat) : List Nat := if meanC gx gy xs then meanTo xs gx.toNat gy.toNat gx.toNat else []
def meanB (gx gy : Int) (xs : List Nat) : Bool := decide (meanC gx gy xs)
theorem meanF_no {gx gy : Int} {xs : List Nat} (h : ¬ (((4 ≤ gx ∧ gx ≤ 16) ∧ 4 ≤ gy ∧ gy ≤ 16) ∧ (xs.length : Int) = gx * gy)) : meanF gx gy xs = [] := if_neg h
theorem meanB_no {gx gy : Int} {xs : List Nat} (h : ¬ (((4 ≤ gx ∧ gx ≤ 16) ∧ 4 ≤ gy ∧ gy ≤ 16) ∧ (xs.length : Int) = gx * gy)) : meanB gx gy xs = false := decide_eq_false h
theorem meanF_yes {w h : Nat} {xs : List Nat} (hc : ((4 ≤ (w : Int) ∧ (w : Int) ≤ 16) ∧ 4 ≤ (h : Int) ∧ (h : Int) ≤ 16) ∧ (xs.length : Int) = (w : Int) * (h : Int)) : meanF w h xs = meanTo xs w h w := if_pos hc
theorem meanB_yes {w h : Nat} {xs : List Nat} (hc : ((4 ≤ (w : Int) ∧ (w : Int) ≤ 16) ∧ 4 ≤ (h : Int) ∧ (h : Int) ≤ 16) ∧ (xs.length : Int) = (w : Int) * (h : Int)) : meanB w h xs = true := decide_eq_true hc
theorem meanF_le (gx gy : Int) (xs : List Nat) : (meanF gx gy xs).length ≤ 1048576 := by
  by_cases h : meanC gx gy xs
  · rw [meanF, if_pos h, meanTo_len]; unfold meanC at h; omega
  · rw [meanF, if_neg h]; simp
theorem gridSize {w0 : World} {σ : Sg} (gx gy : Int) (hg : (4 ≤ gx ∧ gx ≤ 16) ∧ 4 ≤ gy ∧ gy ≤ 16) :
    FnV Try.prog w0 110 [(.agg #[(.int .i64 gx), (.int .i64 gy)])] σ (.int .i64 (gx * gy)) := by
  unfold FnV
  refine Fn.of_W 8 Try.func110 rfl Try.ntmps110 rfl ?_
  refine W.seq ?_
  refine W.region ?_
  refine L.cons (o_box (v := (.agg #[(.int .i64 gx), (.int .i64 gy)])) rfl rfl [(.int .i64 gx), (.int .i64 gy)] rfl) ?_
  rintro _ _ ⟨b1, hf2, hw3, rfl, rfl⟩
  have hb6 : (sg σ b1 (27, [(.int .i64 gx), (.int .i64 gy)])) b1 = some (27, [(.int .i64 gx), (.int .i64 gy)]) := sg_eq _ _ _
  have hx5 : Ext σ (sg σ b1 (27, [(.int .i64 gx), (.int .i64 gy)])) := (Ext.refl _).sg hf2
  have ehx5 := Ext.trans (Ext.refl _) hx5
  generalize hgs4 : sg σ b1 (27, [(.int .i64 gx), (.int .i64 gy)]) = s4 at *
  clear hgs4
  refine L.v (o_assign (v := (.int .i64 0)) rfl) ?_
  refine L.nil ?_
  refine W.seq ?_
  refine W.region ?_
  refine L.v (o_fieldAddr (b := b1) (off := 0) (o := 0) (run_fieldAt (f := 0) (fld := { name := "Wide", type := 2, offset := 0, embedded := false, tag := "", pkgPath := "", byteOffset := 0 }) Try.underlying27 rfl Try.sizeOf2 (Nat.succ_ne_zero _)) rfl) ?_
  refine L.v (o_load (b := b1) (off := 0 + 0) (v := (.int .i64 gx)) Try.isAgg2 rfl (Rd.of hb6 rfl) rfl) ?_
  refine L.v (o_fieldAddr (b := b1) (off := 0) (o := 1) (run_fieldAt (f := 1) (fld := { name := "High", type := 2, offset := 1, embedded := false, tag := "", pkgPath := "", byteOffset := 8 }) Try.underlying27 rfl Try.sizeOf2 (Nat.succ_ne_zero _)) rfl) ?_
  refine L.v (o_load (b := b1) (off := 0 + 1) (v := (.int .i64 gy)) Try.isAgg2 rfl (Rd.of hb6 rfl) rfl) ?_
  refine L.v (o_imul (a := gx) (b := gy) (c := gx * gy) rfl rfl (by rw [IntWalk.i64_in _ (by have := mul_bd (a := gx) (b := gy) (by omega) (by omega); omega)])) ?_
  refine L.v (o_assign (v := (.int .i64 (gx * gy))) rfl) ?_
  refine L.nil ?_
  refine W.ret ?_
  exact RetK.one σ (.int .i64 (gx * gy)) rfl rfl ehx5 ⟨rfl, rfl⟩

theorem specField {w0 : World} {σ : Sg} (b e : Nat) (gx gy : Int) (hb : σ b = some (e, [.int .i64 gx, .int .i64 gy])) (p : Option Addr) (n c : Nat) :
    FnV Try.prog w0 62 [(.pointer (some ⟨b, 0, none⟩)), (.slice p n c)] σ (.bool (decide (((4 ≤ gx ∧ gx ≤ 16) ∧ 4 ≤ gy ∧ gy ≤ 16) ∧ (n : Int) = gx * gy))) := by
  unfold FnV
  refine Fn.of_W 21 Try.func62 rfl Try.ntmps62 rfl ?_
  refine W.seq ?_
  refine W.region ?_
  refine L.v (o_assign (v := (.bool false)) rfl) ?_
  refine L.nil ?_
  refine W.seq ?_
  refine W.draw [true, true, true, true, true, true, true, true, true, true, true, true, true, true, true, true, true] (fun s => s = σ) (by kernel_rfl) (by kernel_rfl) ?_
  refine DL.v (fun _ hD => by cases hD; exact o_move (v := (.pointer (some ⟨b, 0, none⟩))) rfl) ?_
  refine DL.v (v := (.bool (decide ((4 ≤ (gx : Int) ∧ (gx : Int) ≤ 16) ∧ 4 ≤ (gy : Int) ∧ (gy : Int) ≤ 16)))) (fun _ hD => by cases hD; exact op_call [(.pointer (some ⟨b, 0, none⟩))] Try.call46 rfl (specIs b _ gx gy hb)) ?_
  refine DL.v (fun _ hD => by cases hD; exact o_move (v := (.bool (decide ((4 ≤ (gx : Int) ∧ (gx : Int) ≤ 16) ∧ 4 ≤ (gy : Int) ∧ (gy : Int) ≤ 16)))) rfl) ?_
  rcases Bool.eq_false_or_eq_true (decide ((4 ≤ (gx : Int) ∧ (gx : Int) ≤ 16) ∧ 4 ≤ (gy : Int) ∧ (gy : Int) ≤ 16)) with q1 | q1
  ·
    have a2 : (4 ≤ (gx : Int) ∧ (gx : Int) ≤ 16) ∧ 4 ≤ (gy : Int) ∧ (gy : Int) ≤ 16 := of_decide_eq_true q1
    refine DL.gv (j := 2) (d₁ := 7) (b := decide ((4 ≤ (gx : Int) ∧ (gx : Int) ≤ 16) ∧ 4 ≤ (gy : Int) ∧ (gy : Int) ≤ 16)) rfl rfl rfl q1 (fun _ hD => by cases hD; exact o_move (v := (.slice p n c)) rfl) ?_
    refine DL.gv (j := 2) (d₁ := 7) (b := decide ((4 ≤ (gx : Int) ∧ (gx : Int) ≤ 16) ∧ 4 ≤ (gy : Int) ∧ (gy : Int) ≤ 16)) rfl rfl rfl q1 (fun _ hD => by cases hD; exact o_len (p := p) (n := n) (c := c) Try.underlying32 rfl) ?_
    refine DL.gv (j := 2) (d₁ := 7) (b := decide ((4 ≤ (gx : Int) ∧ (gx : Int) ≤ 16) ∧ 4 ≤ (gy : Int) ∧ (gy : Int) ≤ 16)) rfl rfl rfl q1 (fun _ hD => by cases hD; exact o_move (v := (.pointer (some ⟨b, 0, none⟩))) rfl) ?_
    refine DL.gv (j := 2) (d₁ := 7) (b := decide ((4 ≤ (gx : Int) ∧ (gx : Int) ≤ 16) ∧ 4 ≤ (gy : Int) ∧ (gy : Int) ≤ 16)) rfl rfl rfl q1 (fun _ hD => by cases hD; exact o_nilCheck (p := ⟨b, 0, none⟩) rfl) ?_
    refine DL.gv (j := 2) (d₁ := 7) (b := decide ((4 ≤ (gx : Int) ∧ (gx : Int) ≤ 16) ∧ 4 ≤ (gy : Int) ∧ (gy : Int) ≤ 16)) rfl rfl rfl q1 (fun _ hD => by cases hD; exact o_fieldAddr (b := b) (off := 0) (o := 0) (run_fieldAt (f := 0) (fld := { name := "Wide", type := 2, offset := 0, embedded := false, tag := "", pkgPath := "", byteOffset := 0 }) Try.underlying27 rfl Try.sizeOf2 (Nat.succ_ne_zero _)) rfl) ?_
    refine DL.gv (j := 2) (d₁ := 7) (b := decide ((4 ≤ (gx : Int) ∧ (gx : Int) ≤ 16) ∧ 4 ≤ (gy : Int) ∧ (gy : Int) ≤ 16)) rfl rfl rfl q1 (fun _ hD => by cases hD; exact o_load (b := b) (off := 0 + 0) (v := (.int .i64 gx)) Try.isAgg2 rfl (Rd.of hb rfl) rfl) ?_
    refine DL.gv (j := 2) (d₁ := 7) (b := decide ((4 ≤ (gx : Int) ∧ (gx : Int) ≤ 16) ∧ 4 ≤ (gy : Int) ∧ (gy : Int) ≤ 16)) rfl rfl rfl q1 (fun _ hD => by cases hD; exact o_move (v := (.pointer (some ⟨b, 0, none⟩))) rfl) ?_
    refine DL.gv (j := 2) (d₁ := 7) (b := decide ((4 ≤ (gx : Int) ∧ (gx : Int) ≤ 16) ∧ 4 ≤ (gy : Int) ∧ (gy : Int) ≤ 16)) rfl rfl rfl q1 (fun _ hD => by cases hD; exact o_nilCheck (p := ⟨b, 0, none⟩) rfl) ?_
    refine DL.gv (j := 2) (d₁ := 7) (b := decide ((4 ≤ (gx : Int) ∧ (gx : Int) ≤ 16) ∧ 4 ≤ (gy : Int) ∧ (gy : Int) ≤ 16)) rfl rfl rfl q1 (fun _ hD => by cases hD; exact o_fieldAddr (b := b) (off := 0) (o := 1) (run_fieldAt (f := 1) (fld := { name := "High", type := 2, offset := 1, embedded := false, tag := "", pkgPath := "", byteOffset := 8 }) Try.underlying27 rfl Try.sizeOf2 (Nat.succ_ne_zero _)) rfl) ?_
    refine DL.gv (j := 2) (d₁ := 7) (b := decide ((4 ≤ (gx : Int) ∧ (gx : Int) ≤ 16) ∧ 4 ≤ (gy : Int) ∧ (gy : Int) ≤ 16)) rfl rfl rfl q1 (fun _ hD => by cases hD; exact o_load (b := b) (off := 0 + 1) (v := (.int .i64 gy)) Try.isAgg2 rfl (Rd.of hb rfl) rfl) ?_
    refine DL.gv (j := 2) (d₁ := 7) (b := decide ((4 ≤ (gx : Int) ∧ (gx : Int) ≤ 16) ∧ 4 ≤ (gy : Int) ∧ (gy : Int) ≤ 16)) rfl rfl rfl q1 (fun _ hD => by cases hD; exact o_imul (a := gx) (b := gy) (c := gx * gy) rfl rfl (by rw [IntWalk.i64_in _ (by have := mul_bd (a := gx) (b := gy) (by omega) (by omega); omega)])) ?_
    refine DL.gv (j := 2) (d₁ := 7) (b := decide ((4 ≤ (gx : Int) ∧ (gx : Int) ≤ 16) ∧ 4 ≤ (gy : Int) ∧ (gy : Int) ≤ 16)) rfl rfl rfl q1 (fun _ hD => by cases hD; exact o_ieql (a := (n : Int)) (b := gx * gy) rfl rfl rfl) ?_
    refine DL.v (fun _ hD => by cases hD; exact o_pickT (b := decide ((4 ≤ (gx : Int) ∧ (gx : Int) ≤ 16) ∧ 4 ≤ (gy : Int) ∧ (gy : Int) ≤ 16)) (v := (.bool (decide (((n : Int) : Int) = (gx * gy))))) rfl q1 rfl) ?_
    refine DL.v (fun _ hD => by cases hD; exact o_assign (v := (.bool (decide (((n : Int) : Int) = (gx * gy))))) rfl) ?_
    refine DL.nil rfl ?_
    refine W.ret ?_
    exact RetK.one σ (.bool (decide (((n : Int) : Int) = (gx * gy)))) rfl rfl (Ext.refl _) ⟨by first | rfl | (congr 1; exact decide_eq_decide.2 (by omega)) | (congr 1; exact (decide_eq_false (by omega)).symm) | (congr 1; exact (decide_eq_true (by omega)).symm), rfl⟩
  ·
    have a3 : ¬ ((4 ≤ (gx : Int) ∧ (gx : Int) ≤ 16) ∧ 4 ≤ (gy : Int) ∧ (gy : Int) ≤ 16) := of_decide_eq_false q1
    refine DL.gF (j := 2) (d₁ := 7) (b := decide ((4 ≤ (gx : Int) ∧ (gx : Int) ≤ 16) ∧ 4 ≤ (gy : Int) ∧ (gy : Int) ≤ 16)) rfl rfl rfl q1 ?_
    refine DL.gF (j := 2) (d₁ := 7) (b := decide ((4 ≤ (gx : Int) ∧ (gx : Int) ≤ 16) ∧ 4 ≤ (gy : Int) ∧ (gy : Int) ≤ 16)) rfl rfl rfl q1 ?_
    refine DL.gF (j := 2) (d₁ := 7) (b := decide ((4 ≤ (gx : Int) ∧ (gx : Int) ≤ 16) ∧ 4 ≤ (gy : Int) ∧ (gy : Int) ≤ 16)) rfl rfl rfl q1 ?_
    refine DL.gF (j := 2) (d₁ := 7) (b := decide ((4 ≤ (gx : Int) ∧ (gx : Int) ≤ 16) ∧ 4 ≤ (gy : Int) ∧ (gy : Int) ≤ 16)) rfl rfl rfl q1 ?_
    refine DL.gF (j := 2) (d₁ := 7) (b := decide ((4 ≤ (gx : Int) ∧ (gx : Int) ≤ 16) ∧ 4 ≤ (gy : Int) ∧ (gy : Int) ≤ 16)) rfl rfl rfl q1 ?_
    refine DL.gF (j := 2) (d₁ := 7) (b := decide ((4 ≤ (gx : Int) ∧ (gx : Int) ≤ 16) ∧ 4 ≤ (gy : Int) ∧ (gy : Int) ≤ 16)) rfl rfl rfl q1 ?_
    refine DL.gF (j := 2) (d₁ := 7) (b := decide ((4 ≤ (gx : Int) ∧ (gx : Int) ≤ 16) ∧ 4 ≤ (gy : Int) ∧ (gy : Int) ≤ 16)) rfl rfl rfl q1 ?_
    refine DL.gF (j := 2) (d₁ := 7) (b := decide ((4 ≤ (gx : Int) ∧ (gx : Int) ≤ 16) ∧ 4 ≤ (gy : Int) ∧ (gy : Int) ≤ 16)) rfl rfl rfl q1 ?_
    refine DL.gF (j := 2) (d₁ := 7) (b := decide ((4 ≤ (gx : Int) ∧ (gx : Int) ≤ 16) ∧ 4 ≤ (gy : Int) ∧ (gy : Int) ≤ 16)) rfl rfl rfl q1 ?_
    refine DL.gF (j := 2) (d₁ := 7) (b := decide ((4 ≤ (gx : Int) ∧ (gx : Int) ≤ 16) ∧ 4 ≤ (gy : Int) ∧ (gy : Int) ≤ 16)) rfl rfl rfl q1 ?_
    refine DL.gF (j := 2) (d₁ := 7) (b := decide ((4 ≤ (gx : Int) ∧ (gx : Int) ≤ 16) ∧ 4 ≤ (gy : Int) ∧ (gy : Int) ≤ 16)) rfl rfl rfl q1 ?_
    refine DL.gF (j := 2) (d₁ := 7) (b := decide ((4 ≤ (gx : Int) ∧ (gx : Int) ≤ 16) ∧ 4 ≤ (gy : Int) ∧ (gy : Int) ≤ 16)) rfl rfl rfl q1 ?_
    refine DL.v (fun _ hD => by cases hD; exact o_pickF (b := decide ((4 ≤ (gx : Int) ∧ (gx : Int) ≤ 16) ∧ 4 ≤ (gy : Int) ∧ (gy : Int) ≤ 16)) (v := (.bool false)) rfl q1 rfl) ?_
    refine DL.v (fun _ hD => by cases hD; exact o_assign (v := (.bool false)) rfl) ?_
    refine DL.nil rfl ?_
    refine W.ret ?_
    exact RetK.one σ (.bool false) rfl rfl (Ext.refl _) ⟨by first | rfl | (congr 1; exact decide_eq_decide.2 (by omega)) | (congr 1; exact (decide_eq_false (by omega)).symm) | (congr 1; exact (decide_eq_true (by omega)).symm), rfl⟩

theorem implField {w0 : World} {σ : Sg} (gx gy : Int) (p : Option Addr) (n c : Nat) :
    FnV Try.prog w0 95 [(.agg #[(.int .i64 gx), (.int .i64 gy)]), (.slice p n c)] σ (.bool (decide (((4 ≤ gx ∧ gx ≤ 16) ∧ 4 ≤ gy ∧ gy ≤ 16) ∧ (n : Int) = gx * gy))) := by
  unfold FnV
  refine Fn.of_W 14 Try.func95 rfl Try.ntmps95 rfl ?_
  refine W.seq ?_
  refine W.region ?_
  refine L.cons (o_box (v := (.agg #[(.int .i64 gx), (.int .i64 gy)])) rfl rfl [(.int .i64 gx), (.int .i64 gy)] rfl) ?_
  rintro _ _ ⟨b1, hf2, hw3, rfl, rfl⟩
  have hb6 : (sg σ b1 (27, [(.int .i64 gx), (.int .i64 gy)])) b1 = some (27, [(.int .i64 gx), (.int .i64 gy)]) := sg_eq _ _ _
  have hx5 : Ext σ (sg σ b1 (27, [(.int .i64 gx), (.int .i64 gy)])) := (Ext.refl _).sg hf2
  have ehx5 := Ext.trans (Ext.refl _) hx5
  generalize hgs4 : sg σ b1 (27, [(.int .i64 gx), (.int .i64 gy)]) = s4 at *
  clear hgs4
  refine L.v (o_assign (v := (.bool false)) rfl) ?_
  refine L.nil ?_
  refine W.seq ?_
  refine W.draw [true, true, true, true, true, true, true, true, true, true] (fun s => s = s4) (by kernel_rfl) (by kernel_rfl) ?_
  refine DL.v (fun _ hD => by cases hD; exact o_loads (b := b1) (off := 0) (vs := [(.int .i64 gx), (.int .i64 gy)]) Try.isAgg27 Try.sizeOf27 rfl rfl (Rds.of hb6 (by intro j v hj; simpa using hj))) ?_
  refine DL.v (v := (.bool (decide ((4 ≤ (gx : Int) ∧ (gx : Int) ≤ 16) ∧ 4 ≤ (gy : Int) ∧ (gy : Int) ≤ 16)))) (fun _ hD => by cases hD; exact op_call [(.agg #[(.int .i64 gx), (.int .i64 gy)])] Try.call49 rfl (implIs gx gy)) ?_
  refine DL.v (fun _ hD => by cases hD; exact o_move (v := (.bool (decide ((4 ≤ (gx : Int) ∧ (gx : Int) ≤ 16) ∧ 4 ≤ (gy : Int) ∧ (gy : Int) ≤ 16)))) rfl) ?_
  rcases Bool.eq_false_or_eq_true (decide ((4 ≤ (gx : Int) ∧ (gx : Int) ≤ 16) ∧ 4 ≤ (gy : Int) ∧ (gy : Int) ≤ 16)) with q7 | q7
  ·
    have a8 : (4 ≤ (gx : Int) ∧ (gx : Int) ≤ 16) ∧ 4 ≤ (gy : Int) ∧ (gy : Int) ≤ 16 := of_decide_eq_true q7
    refine DL.gv (j := 2) (d₁ := 7) (b := decide ((4 ≤ (gx : Int) ∧ (gx : Int) ≤ 16) ∧ 4 ≤ (gy : Int) ∧ (gy : Int) ≤ 16)) rfl rfl rfl q7 (fun _ hD => by cases hD; exact o_move (v := (.slice p n c)) rfl) ?_
    refine DL.gv (j := 2) (d₁ := 7) (b := decide ((4 ≤ (gx : Int) ∧ (gx : Int) ≤ 16) ∧ 4 ≤ (gy : Int) ∧ (gy : Int) ≤ 16)) rfl rfl rfl q7 (v := (.int .i64 (n : Int))) (fun _ hD => by cases hD; exact op_call [(.slice p n c)] Try.call90 rfl (lengthF p n c)) ?_
    refine DL.gv (j := 2) (d₁ := 7) (b := decide ((4 ≤ (gx : Int) ∧ (gx : Int) ≤ 16) ∧ 4 ≤ (gy : Int) ∧ (gy : Int) ≤ 16)) rfl rfl rfl q7 (fun _ hD => by cases hD; exact o_loads (b := b1) (off := 0) (vs := [(.int .i64 gx), (.int .i64 gy)]) Try.isAgg27 Try.sizeOf27 rfl rfl (Rds.of hb6 (by intro j v hj; simpa using hj))) ?_
    refine DL.gv (j := 2) (d₁ := 7) (b := decide ((4 ≤ (gx : Int) ∧ (gx : Int) ≤ 16) ∧ 4 ≤ (gy : Int) ∧ (gy : Int) ≤ 16)) rfl rfl rfl q7 (v := (.int .i64 (gx * gy))) (fun _ hD => by cases hD; exact op_call [(.agg #[(.int .i64 gx), (.int .i64 gy)])] Try.call110 rfl (gridSize gx gy (by omega))) ?_
    refine DL.gv (j := 2) (d₁ := 7) (b := decide ((4 ≤ (gx : Int) ∧ (gx : Int) ≤ 16) ∧ 4 ≤ (gy : Int) ∧ (gy : Int) ≤ 16)) rfl rfl rfl q7 (fun _ hD => by cases hD; exact o_ieql (a := (n : Int)) (b := gx * gy) rfl rfl rfl) ?_
    refine DL.v (fun _ hD => by cases hD; exact o_pickT (b := decide ((4 ≤ (gx : Int) ∧ (gx : Int) ≤ 16) ∧ 4 ≤ (gy : Int) ∧ (gy : Int) ≤ 16)) (v := (.bool (decide (((n : Int) : Int) = (gx * gy))))) rfl q7 rfl) ?_
    refine DL.v (fun _ hD => by cases hD; exact o_assign (v := (.bool (decide (((n : Int) : Int) = (gx * gy))))) rfl) ?_
    refine DL.nil rfl ?_
    refine W.ret ?_
    exact RetK.one σ (.bool (decide (((n : Int) : Int) = (gx * gy)))) rfl rfl ehx5 ⟨by first | rfl | (congr 1; exact decide_eq_decide.2 (by omega)) | (congr 1; exact (decide_eq_false (by omega)).symm) | (congr 1; exact (decide_eq_true (by omega)).symm), rfl⟩
  ·
    have a9 : ¬ ((4 ≤ (gx : Int) ∧ (gx : Int) ≤ 16) ∧ 4 ≤ (gy : Int) ∧ (gy : Int) ≤ 16) := of_decide_eq_false q7
    refine DL.gF (j := 2) (d₁ := 7) (b := decide ((4 ≤ (gx : Int) ∧ (gx : Int) ≤ 16) ∧ 4 ≤ (gy : Int) ∧ (gy : Int) ≤ 16)) rfl rfl rfl q7 ?_
    refine DL.gF (j := 2) (d₁ := 7) (b := decide ((4 ≤ (gx : Int) ∧ (gx : Int) ≤ 16) ∧ 4 ≤ (gy : Int) ∧ (gy : Int) ≤ 16)) rfl rfl rfl q7 ?_
    refine DL.gF (j := 2) (d₁ := 7) (b := decide ((4 ≤ (gx : Int) ∧ (gx : Int) ≤ 16) ∧ 4 ≤ (gy : Int) ∧ (gy : Int) ≤ 16)) rfl rfl rfl q7 ?_
    refine DL.gF (j := 2) (d₁ := 7) (b := decide ((4 ≤ (gx : Int) ∧ (gx : Int) ≤ 16) ∧ 4 ≤ (gy : Int) ∧ (gy : Int) ≤ 16)) rfl rfl rfl q7 ?_
    refine DL.gF (j := 2) (d₁ := 7) (b := decide ((4 ≤ (gx : Int) ∧ (gx : Int) ≤ 16) ∧ 4 ≤ (gy : Int) ∧ (gy : Int) ≤ 16)) rfl rfl rfl q7 ?_
    refine DL.v (fun _ hD => by cases hD; exact o_pickF (b := decide ((4 ≤ (gx : Int) ∧ (gx : Int) ≤ 16) ∧ 4 ≤ (gy : Int) ∧ (gy : Int) ≤ 16)) (v := (.bool false)) rfl q7 rfl) ?_
    refine DL.v (fun _ hD => by cases hD; exact o_assign (v := (.bool false)) rfl) ?_
    refine DL.nil rfl ?_
    refine W.ret ?_
    exact RetK.one σ (.bool false) rfl rfl ehx5 ⟨by first | rfl | (congr 1; exact decide_eq_decide.2 (by omega)) | (congr 1; exact (decide_eq_false (by omega)).symm) | (congr 1; exact (decide_eq_true (by omega)).symm), rfl⟩

theorem gridIndex {w0 : World} {σ : Sg} (w h x y : Nat) (hwb : 4 ≤ w ∧ w ≤ 16) (hhb : 4 ≤ h ∧ h ≤ 16) (hx : x < w) (hy : y < h) :
    FnV Try.prog w0 96 [(.agg #[(.int .i64 ↑w), (.int .i64 ↑h)]), (.int .i64 ↑x), (.int .i64 ↑y)] σ (.int .i64 ((x + w * y : Nat) : Int)) := by
  unfold FnV
  have hm1 := Nat.mul_le_mul_left w (show y + 1 ≤ h by omega)
  have hm2 : w * (y + 1) = w * y + w := Nat.mul_succ w y
  have hm3 := Nat.mul_le_mul (show w ≤ 16 by omega) (show h ≤ 16 by omega)
  have hm4 := Nat.mul_le_mul (show w ≤ 16 by omega) (show y ≤ 16 by omega)
  refine Fn.of_W 27 Try.func96 rfl Try.ntmps96 rfl ?_
  refine W.seq ?_
  refine W.region ?_
  refine L.cons (o_box (v := (.agg #[(.int .i64 (w : Int)), (.int .i64 (h : Int))])) rfl rfl [(.int .i64 (w : Int)), (.int .i64 (h : Int))] rfl) ?_
  rintro _ _ ⟨b1, hf2, hw3, rfl, rfl⟩
  have hb6 : (sg σ b1 (27, [(.int .i64 (w : Int)), (.int .i64 (h : Int))])) b1 = some (27, [(.int .i64 (w : Int)), (.int .i64 (h : Int))]) := sg_eq _ _ _
  have hx5 : Ext σ (sg σ b1 (27, [(.int .i64 (w : Int)), (.int .i64 (h : Int))])) := (Ext.refl _).sg hf2
  have ehx5 := Ext.trans (Ext.refl _) hx5
  generalize hgs4 : sg σ b1 (27, [(.int .i64 (w : Int)), (.int .i64 (h : Int))]) = s4 at *
  clear hgs4
  refine L.v (o_assign (v := (.int .i64 0)) rfl) ?_
  refine L.nil ?_
  refine W.seq ?_
  refine W.draw [true, true, true, true, true, true, true, true, true, true, true, true, true, true, true, true, true, true, true, true, true] (fun s => s = s4) (by kernel_rfl) (by kernel_rfl) ?_
  refine DL.v (fun _ hD => by cases hD; exact o_move (v := (.int .i64 (x : Int))) rfl) ?_
  refine DL.v (fun _ hD => by cases hD; exact o_fieldAddr (b := b1) (off := 0) (o := 0) (run_fieldAt (f := 0) (fld := { name := "Wide", type := 2, offset := 0, embedded := false, tag := "", pkgPath := "", byteOffset := 0 }) Try.underlying27 rfl Try.sizeOf2 (Nat.succ_ne_zero _)) rfl) ?_
  refine DL.v (fun _ hD => by cases hD; exact o_load (b := b1) (off := 0 + 0) (v := (.int .i64 (w : Int))) Try.isAgg2 rfl (Rd.of hb6 rfl) rfl) ?_
  refine DL.v (fun _ hD => by cases hD; exact o_imul (a := 4) (b := (w : Int)) (c := ((4 * w : Nat) : Int)) rfl rfl (by rw [IntWalk.i64_in _ (by omega)]; try omega)) ?_
  refine DL.v (fun _ hD => by cases hD; exact o_iadd (a := (x : Int)) (b := ((4 * w : Nat) : Int)) (c := ((x + 4 * w : Nat) : Int)) rfl rfl (by rw [IntWalk.i64_in _ (by omega)]; try omega)) ?_
  refine DL.v (fun _ hD => by cases hD; exact o_fieldAddr (b := b1) (off := 0) (o := 0) (run_fieldAt (f := 0) (fld := { name := "Wide", type := 2, offset := 0, embedded := false, tag := "", pkgPath := "", byteOffset := 0 }) Try.underlying27 rfl Try.sizeOf2 (Nat.succ_ne_zero _)) rfl) ?_
  refine DL.v (fun _ hD => by cases hD; exact o_load (b := b1) (off := 0 + 0) (v := (.int .i64 (w : Int))) Try.isAgg2 rfl (Rd.of hb6 rfl) rfl) ?_
  refine DL.v (fun _ hD => by cases hD; exact o_irem (a := ((x + 4 * w : Nat) : Int)) (b := (w : Int)) (c := (x : Int)) rfl rfl (by omega) (mod4 (by omega))) ?_
  refine DL.v (fun _ hD => by cases hD; exact o_fieldAddr (b := b1) (off := 0) (o := 0) (run_fieldAt (f := 0) (fld := { name := "Wide", type := 2, offset := 0, embedded := false, tag := "", pkgPath := "", byteOffset := 0 }) Try.underlying27 rfl Try.sizeOf2 (Nat.succ_ne_zero _)) rfl) ?_
  refine DL.v (fun _ hD => by cases hD; exact o_load (b := b1) (off := 0 + 0) (v := (.int .i64 (w : Int))) Try.isAgg2 rfl (Rd.of hb6 rfl) rfl) ?_
  refine DL.v (fun _ hD => by cases hD; exact o_move (v := (.int .i64 (y : Int))) rfl) ?_
  refine DL.v (fun _ hD => by cases hD; exact o_fieldAddr (b := b1) (off := 0) (o := 1) (run_fieldAt (f := 1) (fld := { name := "High", type := 2, offset := 1, embedded := false, tag := "", pkgPath := "", byteOffset := 8 }) Try.underlying27 rfl Try.sizeOf2 (Nat.succ_ne_zero _)) rfl) ?_
  refine DL.v (fun _ hD => by cases hD; exact o_load (b := b1) (off := 0 + 1) (v := (.int .i64 (h : Int))) Try.isAgg2 rfl (Rd.of hb6 rfl) rfl) ?_
  refine DL.v (fun _ hD => by cases hD; exact o_imul (a := 4) (b := (h : Int)) (c := ((4 * h : Nat) : Int)) rfl rfl (by rw [IntWalk.i64_in _ (by omega)]; try omega)) ?_
  refine DL.v (fun _ hD => by cases hD; exact o_iadd (a := (y : Int)) (b := ((4 * h : Nat) : Int)) (c := ((y + 4 * h : Nat) : Int)) rfl rfl (by rw [IntWalk.i64_in _ (by omega)]; try omega)) ?_
  refine DL.v (fun _ hD => by cases hD; exact o_fieldAddr (b := b1) (off := 0) (o := 1) (run_fieldAt (f := 1) (fld := { name := "High", type := 2, offset := 1, embedded := false, tag := "", pkgPath := "", byteOffset := 8 }) Try.underlying27 rfl Try.sizeOf2 (Nat.succ_ne_zero _)) rfl) ?_
  refine DL.v (fun _ hD => by cases hD; exact o_load (b := b1) (off := 0 + 1) (v := (.int .i64 (h : Int))) Try.isAgg2 rfl (Rd.of hb6 rfl) rfl) ?_
  refine DL.v (fun _ hD => by cases hD; exact o_irem (a := ((y + 4 * h : Nat) : Int)) (b := (h : Int)) (c := (y : Int)) rfl rfl (by omega) (mod4 (by omega))) ?_
  refine DL.v (fun _ hD => by cases hD; exact o_imul (a := (w : Int)) (b := (y : Int)) (c := ((w * y : Nat) : Int)) rfl rfl (by rw [← Int.natCast_mul, IntWalk.i64_in _ (by omega)])) ?_
  refine DL.v (fun _ hD => by cases hD; exact o_iadd (a := (x : Int)) (b := ((w * y : Nat) : Int)) (c := ((x + w * y : Nat) : Int)) rfl rfl (by rw [IntWalk.i64_in _ (by omega)]; try omega)) ?_
  refine DL.v (fun _ hD => by cases hD; exact o_assign (v := (.int .i64 (((x + w * y : Nat) : Int)))) rfl) ?_
  refine DL.nil rfl ?_
  refine W.ret ?_
  exact RetK.one σ (.int .i64 (((x + w * y : Nat) : Int))) rfl rfl ehx5 ⟨rfl, rfl⟩

theorem specMeanL {w0 : World} {σ : Sg} (b e w h : Nat) (hb : σ b = some (e, [.int .i64 (w : Int), .int .i64 (h : Int)])) (p : Option Addr) (xs : List Nat) (hs : Sl σ 1 p (xs.map fl)) (hwb : 4 ≤ w ∧ w ≤ 16) (hhb : 4 ≤ h ∧ h ≤ 16) (hl : xs.length = w * h) :
    Fn Try.prog w0 64 [(.pointer (some ⟨b, 0, none⟩)), (.slice p xs.length xs.length)] σ (RetFS w0 σ 1 ((meanTo xs w h w).map fl) w id) := by
  refine Fn.of_W 50 Try.func64 rfl Try.ntmps64 rfl ?_
  refine W.seq ?_
  refine W.region ?_
  refine L.v (o_assign (v := (.slice none 0 0)) rfl) ?_
  refine L.nil ?_
  refine W.seq ?_
  have hpos := Nat.mul_le_mul (show 4 ≤ w by omega) (show 4 ≤ h by omega)
  obtain ⟨sb, so, rfl, _⟩ := hs.elem 0 (by omega) 0
  refine W.region ?_
  refine L.cons (o_buildSlice (info := Try.t24) (z := .float .f32 0) [] Try.underlying32 Try.type24 rfl rfl rfl rfl (by decide) rfl rfl (by simp [Value.oneCell'])) ?_
  rintro _ _ ⟨b1, hf2, hw3, rfl, rfl⟩
  refine L.v (o_assign (v := (.slice (some ⟨b1, 0, none⟩) 0 0)) rfl) ?_
  refine L.nil ?_
  refine W.seq ?_
  refine W.seq ?_
  refine W.region ?_
  refine L.v (o_assign (v := (.int .i64 0)) rfl) ?_
  refine L.nil ?_
  refine W.block ?_
  have ho0 := Own.new (σ := σ) (e := 24) 1 hw3
  have hx0 : Ext σ (sg σ b1 (24, [])) := (Ext.refl _).sg hf2
  have hv0 := ownAt (n := 0) (c := 0) hf2
  refine W.loop (fun nn tt ss => ∃ (i : Nat) (v : Value), nn = w - i ∧ i ≤ w ∧ Own w0 ss 24 1 v i ((meanTo xs w h i).map (Value.float .f32)) ∧ Ext σ ss ∧ (∀ b, v.ownBlock = some b → σ b = none) ∧ FrOk tt [(0, (.pointer (some ⟨b, 0, none⟩))), (1, (.slice (some ⟨sb, so, none⟩) xs.length xs.length)), (5, v), (6, .int .i64 (i : Int))]) _ ⟨0, (.slice (some ⟨b1, 0, none⟩) 0 0), rfl, by omega, ho0, hx0, hv0, ⟨rfl, rfl, rfl, rfl, trivial⟩⟩ ?_
  rintro _ t1 s1 ⟨i, v, rfl, hi, ho, hx, hv, f1⟩
  rw [← frame_ok f1]
  show W _ _ _ _ _ (upd (upd (upd (upd t1 0 (.pointer (some ⟨b, 0, none⟩))) 1 (.slice (some ⟨sb, so, none⟩) xs.length xs.length)) 5 v) 6 (.int .i64 (i : Int))) _
  refine W.seq ?_
  refine W.seq ?_
  refine W.region ?_
  refine L.v (o_move (v := (.int .i64 (i : Int))) rfl) ?_
  refine L.v (o_move (v := (.pointer (some ⟨b, 0, none⟩))) rfl) ?_
  refine L.v (o_nilCheck (p := ⟨b, 0, none⟩) rfl) ?_
  refine L.v (o_fieldAddr (b := b) (off := 0) (o := 0) (run_fieldAt (f := 0) (fld := { name := "Wide", type := 2, offset := 0, embedded := false, tag := "", pkgPath := "", byteOffset := 0 }) Try.underlying27 rfl Try.sizeOf2 (Nat.succ_ne_zero _)) rfl) ?_
  refine L.v (o_load (b := b) (off := 0 + 0) (v := (.int .i64 (w : Int))) Try.isAgg2 rfl (Rd.of (hx _ _ hb) rfl) rfl) ?_
  refine L.v (o_ilss (a := (i : Int)) (b := (w : Int)) rfl rfl rfl) ?_
  refine L.nil ?_
  refine W.cond (b := decide (((i : Int) : Int) < (w : Int))) rfl (fun q4 => ?_) (fun q4 => ?_)
  ·
    have a5 : ((i : Int) : Int) < (w : Int) := of_decide_eq_true q4
    refine W.skip ?_
    refine W.seq ?_
    refine W.block ?_
    refine W.seq ?_
    refine W.region ?_
    refine L.v (o_assign (v := (.float .f32 0)) rfl) ?_
    refine L.nil ?_
    refine W.seq ?_
    refine W.seq ?_
    refine W.region ?_
    refine L.v (o_assign (v := (.int .i64 0)) rfl) ?_
    refine L.nil ?_
    refine W.block ?_
    refine W.loop (fun nn tt ss => ∃ (k : Nat), nn = h - k ∧ (k ≤ h) ∧ FrOk tt [(0, (.pointer (some ⟨b, 0, none⟩))), (1, (.slice (some ⟨sb, so, none⟩) xs.length xs.length)), (5, v), (6, (.int .i64 (i : Int))), (7, (.float .f32 (colSum xs w i k))), (8, (.int .i64 (k : Int)))] ∧ s1 = ss) _ ⟨0, rfl, (by omega), ⟨rfl, rfl, rfl, rfl, rfl, rfl, trivial⟩, rfl⟩ ?_
    rintro _ t6 _ ⟨k, rfl, hk, f7, rfl⟩
    rw [← frame_ok f7]
    show W _ _ _ _ _ (upd (upd (upd (upd (upd (upd t6 0 (.pointer (some ⟨b, 0, none⟩))) 1 (.slice (some ⟨sb, so, none⟩) xs.length xs.length)) 5 v) 6 (.int .i64 (i : Int))) 7 (.float .f32 (colSum xs w i k))) 8 (.int .i64 (k : Int))) _
    refine W.seq ?_
    refine W.seq ?_
    refine W.region ?_
    refine L.v (o_move (v := (.int .i64 (k : Int))) rfl) ?_
    refine L.v (o_move (v := (.pointer (some ⟨b, 0, none⟩))) rfl) ?_
    refine L.v (o_nilCheck (p := ⟨b, 0, none⟩) rfl) ?_
    refine L.v (o_fieldAddr (b := b) (off := 0) (o := 1) (run_fieldAt (f := 1) (fld := { name := "High", type := 2, offset := 1, embedded := false, tag := "", pkgPath := "", byteOffset := 8 }) Try.underlying27 rfl Try.sizeOf2 (Nat.succ_ne_zero _)) rfl) ?_
    refine L.v (o_load (b := b) (off := 0 + 1) (v := (.int .i64 (h : Int))) Try.isAgg2 rfl (Rd.of (hx _ _ hb) rfl) rfl) ?_
    refine L.v (o_ilss (a := (k : Int)) (b := (h : Int)) rfl rfl rfl) ?_
    refine L.nil ?_
    refine W.cond (b := decide (((k : Int) : Int) < (h : Int))) rfl (fun q8 => ?_) (fun q8 => ?_)
    ·
      have a9 : ((k : Int) : Int) < (h : Int) := of_decide_eq_true q8
      refine W.skip ?_
      refine W.seq ?_
      refine W.block ?_
      have hm1 := Nat.mul_le_mul_left w (show k + 1 ≤ h by omega)
      have hm2 : w * (k + 1) = w * k + w := Nat.mul_succ w k
      have hm3 := Nat.mul_le_mul (show w ≤ 16 by omega) (show h ≤ 16 by omega)
      refine W.region ?_
      refine L.v (o_move (v := (.float .f32 (colSum xs w i k))) rfl) ?_
      refine L.v (o_move (v := (.slice (some ⟨sb, so, none⟩) xs.length xs.length)) rfl) ?_
      refine L.v (o_move (v := (.int .i64 (i : Int))) rfl) ?_
      refine L.v (o_move (v := (.pointer (some ⟨b, 0, none⟩))) rfl) ?_
      refine L.v (o_nilCheck (p := ⟨b, 0, none⟩) rfl) ?_
      refine L.v (o_fieldAddr (b := b) (off := 0) (o := 0) (run_fieldAt (f := 0) (fld := { name := "Wide", type := 2, offset := 0, embedded := false, tag := "", pkgPath := "", byteOffset := 0 }) Try.underlying27 rfl Try.sizeOf2 (Nat.succ_ne_zero _)) rfl) ?_
      refine L.v (o_load (b := b) (off := 0 + 0) (v := (.int .i64 (w : Int))) Try.isAgg2 rfl (Rd.of (hx _ _ hb) rfl) rfl) ?_
      refine L.v (o_move (v := (.int .i64 (k : Int))) rfl) ?_
      refine L.v (o_imul (a := (w : Int)) (b := (k : Int)) (c := ((w * k : Nat) : Int)) rfl rfl (by rw [← Int.natCast_mul, IntWalk.i64_in _ (by omega)])) ?_
      refine L.v (o_iadd (a := (i : Int)) (b := ((w * k : Nat) : Int)) (c := ((i + w * k : Nat) : Int)) rfl rfl (by rw [IntWalk.i64_in _ (by omega)]; try omega)) ?_
      refine L.v (o_indexAddr (b := sb) (off := so) (n := xs.length) (c := xs.length) (i + w * k) Try.underlying32 Try.sizeOf24 rfl rfl (by omega)) ?_
      refine L.v (o_load (b := sb) (off := so + (i + w * k) * 1) (v := (.float .f32 (xs.getD (i + w * k) 0))) Try.isAgg24 rfl (Rds.fst (Sl.at (Sl.ext hs hx) (i + w * k) (by omega) 0)) rfl) ?_
      refine L.v (o_farith (k := .f32) (a := colSum xs w i k) (b := xs.getD (i + w * k) 0) rfl rfl rfl) ?_
      refine L.v (o_assign (v := (.float .f32 (fop .add .f32 (colSum xs w i k) (xs.getD (i + w * k) 0)))) rfl) ?_
      refine L.nil ?_
      refine W.region ?_
      refine L.v (o_move (v := (.int .i64 (k : Int))) rfl) ?_
      refine L.v (o_iadd (a := (k : Int)) (b := 1) (c := ((k + 1 : Nat) : Int)) rfl rfl (by rw [IntWalk.i64_in _ (by omega)]; try omega)) ?_
      refine L.v (o_assign (v := (.int .i64 (((k + 1 : Nat) : Int)))) rfl) ?_
      refine L.nil ?_
      exact ⟨_, (by omega), k + 1, rfl, (by omega), ⟨rfl, rfl, rfl, rfl, rfl, rfl, trivial⟩, rfl⟩
    ·
      have a10 : ¬ (((k : Int) : Int) < (h : Int)) := of_decide_eq_false q8
      refine W.exit ?_
      obtain rfl : h = k := by omega
      refine W.region ?_
      refine L.v (o_move (v := v) rfl) ?_
      refine L.v (o_move (v := (.float .f32 (colSum xs w i h))) rfl) ?_
      refine L.v (o_move (v := (.pointer (some ⟨b, 0, none⟩))) rfl) ?_
      refine L.v (o_nilCheck (p := ⟨b, 0, none⟩) rfl) ?_
      refine L.v (o_fieldAddr (b := b) (off := 0) (o := 1) (run_fieldAt (f := 1) (fld := { name := "High", type := 2, offset := 1, embedded := false, tag := "", pkgPath := "", byteOffset := 8 }) Try.underlying27 rfl Try.sizeOf2 (Nat.succ_ne_zero _)) rfl) ?_
      refine L.v (o_load (b := b) (off := 0 + 1) (v := (.int .i64 (h : Int))) Try.isAgg2 rfl (Rd.of (hx _ _ hb) rfl) rfl) ?_
      refine L.v (o_cvIF (a := (h : Int)) (by rw [Try.underlying2]; rfl) Try.underlying24 rfl) ?_
      refine L.v (o_farith (k := .f32) (a := colSum xs w i h) (b := FloatKind.nearest .f32 (h : Int)) rfl rfl rfl) ?_
      refine L.cons (o_buildSlice (info := Try.t24) (z := .float .f32 0) [(.float .f32 (fop .quo .f32 (colSum xs w i h) (FloatKind.nearest .f32 (h : Int))))] Try.underlying32 Try.type24 rfl rfl rfl rfl (by decide) rfl rfl (by simp [Value.oneCell'])) ?_
      rintro _ _ ⟨b11, hf12, hw13, rfl, rfl⟩
      have hx14 := Ext.trans hx ((Ext.refl _).sg (x := (24, [(.float .f32 (fop .quo .f32 (colSum xs w i h) (FloatKind.nearest .f32 (h : Int))))])) hf12)
      have ho15 := Own.ext ho ((Ext.refl _).sg (x := (24, [(.float .f32 (fop .quo .f32 (colSum xs w i h) (FloatKind.nearest .f32 (h : Int))))])) hf12)
      refine L.cons (o_append (info := Try.t24) (z := .float .f32 0) (size := 1) (bytes := 4) (v := v) (n := i) (m := 1) (c := 1) (b := b11) (off := 0) (xs := ((meanTo xs w h i).map (Value.float .f32))) (news := [(.float .f32 (fop .quo .f32 (colSum xs w i h) (FloatKind.nearest .f32 (h : Int))))]) Try.underlying32 Try.type24 rfl rfl rfl rfl rfl ho15 rfl (by decide) rfl (Rds.of (sg_eq _ _ _) (by intro j v hj; simpa using hj)) (by simp [Value.oneCell']) (by unfold maxLen; omega) (by omega)) ?_
      rintro v16 s17 ⟨ho18, gr19⟩
      have hx20 := Grew.ext gr19 hx14 hv
      have hv21 := Grew.fresh gr19 hx14 hv
      refine L.v (o_assign (v := v16) rfl) ?_
      refine L.nil ?_
      refine W.region ?_
      refine L.v (o_move (v := (.int .i64 (i : Int))) rfl) ?_
      refine L.v (o_iadd (a := (i : Int)) (b := 1) (c := ((i + 1 : Nat) : Int)) rfl rfl (by rw [IntWalk.i64_in _ (by omega)]; try omega)) ?_
      refine L.v (o_assign (v := (.int .i64 (((i + 1 : Nat) : Int)))) rfl) ?_
      refine L.nil ?_
      exact ⟨_, (by omega), i + 1, v16, rfl, by omega, by rw [meanTo_succ, List.map_append, List.map_singleton]; exact ho18, hx20, hv21, ⟨rfl, rfl, rfl, rfl, trivial⟩⟩
  ·
    have a22 : ¬ (((i : Int) : Int) < (w : Int)) := of_decide_eq_false q4
    refine W.exit ?_
    refine W.seq ?_
    refine W.region ?_
    refine L.v (o_move (v := v) rfl) ?_
    refine L.v (o_assign (v := v) rfl) ?_
    refine L.nil ?_
    refine W.ret ?_
    obtain rfl : w = i := by omega
    obtain ⟨p', c', hpc, hfs⟩ := Fsl.of_own (rows := (meanTo xs w h w).map fl) (n := w) (by rw [flat_fl]; exact ho) (by rw [List.length_map, meanTo_len]) (by simp [fl]) hx hv
    exact RetK.one s1 v rfl rfl (Ext.refl _) ⟨p', c', hpc, hfs⟩

theorem gridMean {w0 : World} {σ : Sg} (w h : Nat) (p : Option Addr) (xs : List Nat) (hs : Sl σ 1 p (xs.map fl)) (hwb : 4 ≤ w ∧ w ≤ 16) (hhb : 4 ≤ h ∧ h ≤ 16) (hl : xs.length = w * h) :
    Fn Try.prog w0 66 [(.agg #[(.int .i64 ↑w), (.int .i64 ↑h)]), (.slice p xs.length xs.length)] σ (RetFS w0 σ 1 ((meanTo xs w h w).map fl) w id) := by
  refine Fn.of_W 46 Try.func66 rfl Try.ntmps66 rfl ?_
  refine W.seq ?_
  refine W.region ?_
  refine L.cons (o_box (v := (.agg #[(.int .i64 (w : Int)), (.int .i64 (h : Int))])) rfl rfl [(.int .i64 (w : Int)), (.int .i64 (h : Int))] rfl) ?_
  rintro _ _ ⟨b1, hf2, hw3, rfl, rfl⟩
  have hb6 : (sg σ b1 (27, [(.int .i64 (w : Int)), (.int .i64 (h : Int))])) b1 = some (27, [(.int .i64 (w : Int)), (.int .i64 (h : Int))]) := sg_eq _ _ _
  have hx5 : Ext σ (sg σ b1 (27, [(.int .i64 (w : Int)), (.int .i64 (h : Int))])) := (Ext.refl _).sg hf2
  have hs7 := Sl.ext hs hx5
  have ehx5 := Ext.trans (Ext.refl _) hx5
  generalize hgs4 : sg σ b1 (27, [(.int .i64 (w : Int)), (.int .i64 (h : Int))]) = s4 at *
  clear hgs4
  refine L.v (o_assign (v := (.slice none 0 0)) rfl) ?_
  refine L.nil ?_
  refine W.seq ?_
  have hpos := Nat.mul_le_mul (show 4 ≤ w by omega) (show 4 ≤ h by omega)
  obtain ⟨sb, so, rfl, _⟩ := hs7.elem 0 (by omega) 0
  refine W.region ?_
  refine L.v (o_fieldAddr (b := b1) (off := 0) (o := 0) (run_fieldAt (f := 0) (fld := { name := "Wide", type := 2, offset := 0, embedded := false, tag := "", pkgPath := "", byteOffset := 0 }) Try.underlying27 rfl Try.sizeOf2 (Nat.succ_ne_zero _)) rfl) ?_
  refine L.v (o_load (b := b1) (off := 0 + 0) (v := (.int .i64 (w : Int))) Try.isAgg2 rfl (Rd.of hb6 rfl) rfl) ?_
  refine L.cons (o_makeSlice (ik := .i64) (info := Try.t24) (z := .float .f32 0) w Try.underlying32 Try.type24 rfl rfl (by show 4 * _ ≤ _; omega) (by omega)) ?_
  rintro _ _ ⟨ob, hf, hw, rfl, rfl⟩
  rw [show (madeCells ((Value.float .f32 0).cells) (w * Try.t24.size)).toList = (mo xs w h 0).map (Value.float .f32) by show (madeCells #[_] (w * 1)).toList = _; rw [Nat.mul_one, made_one, mo_init]; simp]
  refine L.v (o_assign (v := (.slice (some ⟨ob, 0, none⟩) w w)) rfl) ?_
  refine L.nil ?_
  refine W.seq ?_
  refine W.seq ?_
  refine W.region ?_
  refine L.v (o_fieldAddr (b := b1) (off := 0) (o := 0) (run_fieldAt (f := 0) (fld := { name := "Wide", type := 2, offset := 0, embedded := false, tag := "", pkgPath := "", byteOffset := 0 }) Try.underlying27 rfl Try.sizeOf2 (Nat.succ_ne_zero _)) rfl) ?_
  refine L.v (o_load (b := b1) (off := 0 + 0) (v := (.int .i64 (w : Int))) Try.isAgg2 rfl (Rd.of ((Ext.refl _).sg hf _ _ hb6) rfl) rfl) ?_
  refine L.v (o_move (v := (.int .i64 0)) rfl) ?_
  refine L.nil ?_
  refine W.block ?_
  refine W.loop (fun nn tt ss => ∃ (i : Nat), nn = w - i ∧ (i ≤ w) ∧ FrOk tt [(1, (.slice (some ⟨sb, so, none⟩) xs.length xs.length)), (2, (.pointer (some ⟨b1, 0, none⟩))), (5, (.slice (some ⟨ob, 0, none⟩) w w)), (12, (.int .i64 (w : Int))), (13, (.int .i64 (i : Int)))] ∧ sg s4 ob (24, (mo xs w h i).map (Value.float .f32)) = ss) _ ⟨0, rfl, (by omega), ⟨rfl, rfl, rfl, rfl, rfl, trivial⟩, rfl⟩ ?_
  rintro _ t8 _ ⟨i, rfl, hi, f9, rfl⟩
  rw [← frame_ok f9]
  show W _ _ _ _ _ (upd (upd (upd (upd (upd t8 1 (.slice (some ⟨sb, so, none⟩) xs.length xs.length)) 2 (.pointer (some ⟨b1, 0, none⟩))) 5 (.slice (some ⟨ob, 0, none⟩) w w)) 12 (.int .i64 (w : Int))) 13 (.int .i64 (i : Int))) _
  refine W.seq ?_
  refine W.region ?_
  refine L.v (o_ilss (a := (i : Int)) (b := (w : Int)) rfl rfl rfl) ?_
  refine L.nil ?_
  refine W.seq ?_
  refine W.cond (b := decide (((i : Int) : Int) < (w : Int))) rfl (fun q10 => ?_) (fun q10 => ?_)
  ·
    have a11 : ((i : Int) : Int) < (w : Int) := of_decide_eq_true q10
    refine W.skip ?_
    refine W.seq ?_
    refine W.block ?_
    refine W.seq ?_
    refine W.region ?_
    refine L.v (o_move (v := (.int .i64 (i : Int))) rfl) ?_
    refine L.v (o_assign (v := (.int .i64 (i : Int))) rfl) ?_
    refine L.nil ?_
    refine W.seq ?_
    refine W.seq ?_
    refine W.region ?_
    refine L.v (o_fieldAddr (b := b1) (off := 0) (o := 1) (run_fieldAt (f := 1) (fld := { name := "High", type := 2, offset := 1, embedded := false, tag := "", pkgPath := "", byteOffset := 8 }) Try.underlying27 rfl Try.sizeOf2 (Nat.succ_ne_zero _)) rfl) ?_
    refine L.v (o_load (b := b1) (off := 0 + 1) (v := (.int .i64 (h : Int))) Try.isAgg2 rfl (Rd.of ((Ext.refl _).sg hf _ _ hb6) rfl) rfl) ?_
    refine L.v (o_move (v := (.int .i64 0)) rfl) ?_
    refine L.nil ?_
    refine W.block ?_
    refine W.loop (fun nn tt ss => ∃ (k : Nat), nn = h - k ∧ (k ≤ h) ∧ FrOk tt [(1, (.slice (some ⟨sb, so, none⟩) xs.length xs.length)), (2, (.pointer (some ⟨b1, 0, none⟩))), (5, (.slice (some ⟨ob, 0, none⟩) w w)), (6, (.int .i64 (i : Int))), (12, (.int .i64 (w : Int))), (13, (.int .i64 (i : Int))), (17, (.int .i64 (h : Int))), (18, (.int .i64 (k : Int)))] ∧ sg s4 ob (24, ((mo xs w h i).set i (colSum xs w i k)).map (Value.float .f32)) = ss) _ ⟨0, rfl, (by omega), ⟨rfl, rfl, rfl, rfl, rfl, rfl, rfl, rfl, trivial⟩, (by rw [mo_zero (by omega)])⟩ ?_
    rintro _ t12 _ ⟨k, rfl, hk, f13, rfl⟩
    rw [← frame_ok f13]
    show W _ _ _ _ _ (upd (upd (upd (upd (upd (upd (upd (upd t12 1 (.slice (some ⟨sb, so, none⟩) xs.length xs.length)) 2 (.pointer (some ⟨b1, 0, none⟩))) 5 (.slice (some ⟨ob, 0, none⟩) w w)) 6 (.int .i64 (i : Int))) 12 (.int .i64 (w : Int))) 13 (.int .i64 (i : Int))) 17 (.int .i64 (h : Int))) 18 (.int .i64 (k : Int))) _
    refine W.seq ?_
    refine W.region ?_
    refine L.v (o_ilss (a := (k : Int)) (b := (h : Int)) rfl rfl rfl) ?_
    refine L.nil ?_
    refine W.seq ?_
    refine W.cond (b := decide (((k : Int) : Int) < (h : Int))) rfl (fun q14 => ?_) (fun q14 => ?_)
    ·
      have a15 : ((k : Int) : Int) < (h : Int) := of_decide_eq_true q14
      refine W.skip ?_
      refine W.seq ?_
      refine W.block ?_
      refine W.seq ?_
      refine W.region ?_
      refine L.v (o_move (v := (.int .i64 (k : Int))) rfl) ?_
      refine L.v (o_assign (v := (.int .i64 (k : Int))) rfl) ?_
      refine L.nil ?_
      have hm1 := Nat.mul_le_mul_left w (show k + 1 ≤ h by omega)
      have hm2 : w * (k + 1) = w * k + w := Nat.mul_succ w k
      have hm3 := Nat.mul_le_mul (show w ≤ 16 by omega) (show h ≤ 16 by omega)
      refine W.drawLast 13 (fun s => s = sg s4 ob (24, ((mo xs w h i).set i (colSum xs w i k)).map (Value.float .f32))) (by kernel_rfl) (by kernel_rfl) ?_
      refine QL.v (fun _ hD => by cases hD; exact o_move (v := (.slice (some ⟨ob, 0, none⟩) w w)) rfl) ?_
      refine QL.v (fun _ hD => by cases hD; exact o_move (v := (.int .i64 (i : Int))) rfl) ?_
      refine QL.v (fun _ hD => by cases hD; exact o_indexAddr (b := ob) (off := 0) (n := w) (c := w) i Try.underlying32 Try.sizeOf24 rfl rfl (by omega)) ?_
      refine QL.v (fun _ hD => by cases hD; exact o_load (b := ob) (off := 0 + i * 1) (v := (.float .f32 (colSum xs w i k))) Try.isAgg24 rfl (col_rd (by omega)) rfl) ?_
      refine QL.v (fun _ hD => by cases hD; exact o_move (v := (.slice (some ⟨sb, so, none⟩) xs.length xs.length)) rfl) ?_
      refine QL.v (fun _ hD => by cases hD; exact o_loads (b := b1) (off := 0) (vs := [(.int .i64 (w : Int)), (.int .i64 (h : Int))]) Try.isAgg27 Try.sizeOf27 rfl rfl (Rds.of ((Ext.refl _).sg hf _ _ hb6) (by intro j v hj; simpa using hj))) ?_
      refine QL.v (fun _ hD => by cases hD; exact o_move (v := (.int .i64 (i : Int))) rfl) ?_
      refine QL.v (fun _ hD => by cases hD; exact o_move (v := (.int .i64 (k : Int))) rfl) ?_
      refine QL.v (v := (.int .i64 (((i + w * k : Nat) : Int)))) (fun _ hD => by cases hD; exact op_call [(.agg #[(.int .i64 (w : Int)), (.int .i64 (h : Int))]), (.int .i64 (i : Int)), (.int .i64 (k : Int))] Try.call96 rfl (gridIndex w h i k (by omega) (by omega) (by omega) (by omega))) ?_
      refine QL.v (fun _ hD => by cases hD; exact o_indexAddr (b := sb) (off := so) (n := xs.length) (c := xs.length) (i + w * k) Try.underlying32 Try.sizeOf24 rfl rfl (by omega)) ?_
      refine QL.v (fun _ hD => by cases hD; exact o_load (b := sb) (off := so + (i + w * k) * 1) (v := (.float .f32 (xs.getD (i + w * k) 0))) Try.isAgg24 rfl (Rds.fst (Sl.at (Sl.ext hs7 ((Ext.refl _).sg hf)) (i + w * k) (by omega) 0)) rfl) ?_
      refine QL.v (fun _ hD => by cases hD; exact o_farith (k := .f32) (a := colSum xs w i k) (b := xs.getD (i + w * k) 0) rfl rfl rfl) ?_
      refine QL.v (fun _ hD => by cases hD; exact o_indexAddr (b := ob) (off := 0) (n := w) (c := w) i Try.underlying32 Try.sizeOf24 rfl rfl (by omega)) ?_
      refine QL.last0 rfl (o_store (b := ob) (off := 0 + i * 1) (v := (.float .f32 (fop .add .f32 (colSum xs w i k) (xs.getD (i + w * k) 0)))) (cs := ((mo xs w h i).set i (colSum xs w i k)).map (Value.float .f32)) Try.sizeOf24 rfl rfl rfl (sg_eq _ _ _) (by rw [List.length_map, List.length_set, mo_len (by omega)]; omega) hw) ?_
      rintro _ _ ⟨rfl, rfl⟩
      rw [sg_sg, show (((mo xs w h i).set i (colSum xs w i k)).map (Value.float .f32)).set (0 + i * 1) (.float .f32 (fop .add .f32 (colSum xs w i k) (xs.getD (i + w * k) 0))) = ((mo xs w h i).set i (colSum xs w i (k + 1))).map (Value.float .f32) by rw [show 0 + i * 1 = i by omega, ← List.map_set, List.set_set]; rfl]
      refine W.region ?_
      refine L.v (o_iadd (a := (k : Int)) (b := 1) (c := ((k + 1 : Nat) : Int)) rfl rfl (by rw [IntWalk.i64_in _ (by omega)]; try omega)) ?_
      refine L.v (o_move (v := (.int .i64 (((k + 1 : Nat) : Int)))) rfl) ?_
      refine L.nil ?_
      exact ⟨_, (by omega), k + 1, rfl, (by omega), ⟨rfl, rfl, rfl, rfl, rfl, rfl, rfl, rfl, trivial⟩, rfl⟩
    ·
      have a16 : ¬ (((k : Int) : Int) < (h : Int)) := of_decide_eq_false q14
      refine W.exit ?_
      obtain rfl : h = k := by omega
      refine W.drawLast 9 (fun s => s = sg s4 ob (24, ((mo xs w h i).set i (colSum xs w i h)).map (Value.float .f32))) (by kernel_rfl) (by kernel_rfl) ?_
      refine QL.v (fun _ hD => by cases hD; exact o_move (v := (.slice (some ⟨ob, 0, none⟩) w w)) rfl) ?_
      refine QL.v (fun _ hD => by cases hD; exact o_move (v := (.int .i64 (i : Int))) rfl) ?_
      refine QL.v (fun _ hD => by cases hD; exact o_indexAddr (b := ob) (off := 0) (n := w) (c := w) i Try.underlying32 Try.sizeOf24 rfl rfl (by omega)) ?_
      refine QL.v (fun _ hD => by cases hD; exact o_load (b := ob) (off := 0 + i * 1) (v := (.float .f32 (colSum xs w i h))) Try.isAgg24 rfl (col_rd (by omega)) rfl) ?_
      refine QL.v (fun _ hD => by cases hD; exact o_fieldAddr (b := b1) (off := 0) (o := 1) (run_fieldAt (f := 1) (fld := { name := "High", type := 2, offset := 1, embedded := false, tag := "", pkgPath := "", byteOffset := 8 }) Try.underlying27 rfl Try.sizeOf2 (Nat.succ_ne_zero _)) rfl) ?_
      refine QL.v (fun _ hD => by cases hD; exact o_load (b := b1) (off := 0 + 1) (v := (.int .i64 (h : Int))) Try.isAgg2 rfl (Rd.of ((Ext.refl _).sg hf _ _ hb6) rfl) rfl) ?_
      refine QL.v (fun _ hD => by cases hD; exact o_cvIF (a := (h : Int)) (by rw [Try.underlying2]; rfl) Try.underlying24 rfl) ?_
      refine QL.v (fun _ hD => by cases hD; exact o_farith (k := .f32) (a := colSum xs w i h) (b := FloatKind.nearest .f32 (h : Int)) rfl rfl rfl) ?_
      refine QL.v (fun _ hD => by cases hD; exact o_indexAddr (b := ob) (off := 0) (n := w) (c := w) i Try.underlying32 Try.sizeOf24 rfl rfl (by omega)) ?_
      refine QL.last0 rfl (o_store (b := ob) (off := 0 + i * 1) (v := (.float .f32 (fop .quo .f32 (colSum xs w i h) (FloatKind.nearest .f32 (h : Int))))) (cs := ((mo xs w h i).set i (colSum xs w i h)).map (Value.float .f32)) Try.sizeOf24 rfl rfl rfl (sg_eq _ _ _) (by rw [List.length_map, List.length_set, mo_len (by omega)]; omega) hw) ?_
      rintro _ _ ⟨rfl, rfl⟩
      rw [sg_sg, show (((mo xs w h i).set i (colSum xs w i h)).map (Value.float .f32)).set (0 + i * 1) (.float .f32 (fop .quo .f32 (colSum xs w i h) (FloatKind.nearest .f32 (h : Int)))) = (mo xs w h (i + 1)).map (Value.float .f32) by rw [show 0 + i * 1 = i by omega, ← List.map_set, List.set_set]; rw [mo_step (by omega)]]
      refine W.region ?_
      refine L.v (o_iadd (a := (i : Int)) (b := 1) (c := ((i + 1 : Nat) : Int)) rfl rfl (by rw [IntWalk.i64_in _ (by omega)]; try omega)) ?_
      refine L.v (o_move (v := (.int .i64 (((i + 1 : Nat) : Int)))) rfl) ?_
      refine L.nil ?_
      exact ⟨_, (by omega), i + 1, rfl, (by omega), ⟨rfl, rfl, rfl, rfl, rfl, trivial⟩, rfl⟩
  ·
    have a17 : ¬ (((i : Int) : Int) < (w : Int)) := of_decide_eq_false q10
    refine W.exit ?_
    refine W.seq ?_
    refine W.region ?_
    refine L.v (o_move (v := (.slice (some ⟨ob, 0, none⟩) w w)) rfl) ?_
    refine L.v (o_assign (v := (.slice (some ⟨ob, 0, none⟩) w w)) rfl) ?_
    refine L.nil ?_
    refine W.ret ?_
    obtain rfl : w = i := by omega
    rw [mo_full, show (meanTo xs w h w).map (Value.float .f32) = ((meanTo xs w h w).map fl).flatten from (flat_fl _).symm]
    exact RetK.one _ (.slice (some ⟨ob, 0, none⟩) w w) rfl rfl (Ext.refl _) ⟨_, w, rfl, Fsl.weaken (Fsl.of_newB hf hw (by simp [fl])) ehx5⟩

end Go.Proofs.Ytnonlibekcacgaa.En
