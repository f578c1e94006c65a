/- ModeOf in the program and in the reference, and its law. -/
import Derived.Test.YtnonlibekcacgaaMean3
import Derived.Test.YtnonlibekcacgaaRows
namespace Go.Proofs.Ytnonlibekcacgaa.En
open Go
set_option linter.unusedVariables false
set_option maxRecDepth 100000
theorem speTo_at {xs : List Nat} {n k : Nat} (h : k < n) : (speTo xs n).getD k (0, 0) = speS xs xs.length k xs.length := by
  simp [speTo, List.getD_eq_getElem?_getD, h]
def modeB (gx gy m : Int) (xs : List Nat) : Bool := decide ((((4 ≤ gx ∧ gx ≤ 16) ∧ 4 ≤ gy ∧ gy ≤ 16) ∧ (xs.length : Int) = gx * gy) ∧ 0 ≤ m ∧ m ≤ gx - 1)
def modeV (gx gy m : Int) (xs : List Nat) : Nat × Nat := if modeB gx gy m xs = true then speS (meanTo xs gx.toNat gy.toNat gx.toNat) (meanTo xs gx.toNat gy.toNat gx.toNat).length m.toNat (meanTo xs gx.toNat gy.toNat gx.toNat).length else (0, 0)
theorem modeV_no {gx gy m : Int} {xs : List Nat} (h : modeB gx gy m xs = false) : modeV gx gy m xs = (0, 0) := if_neg (by rw [h]; decide)
theorem modeV_yes {w h k : Nat} {xs : List Nat} (hh : modeB w h k xs = true) : modeV w h k xs = speS (meanTo xs w h w) (meanTo xs w h w).length k (meanTo xs w h w).length := if_pos hh
theorem specMode {w0 : World} {σ : Sg} (b e : Nat) (gx gy : Int) (hb : σ b = some (e, [.int .i64 gx, .int .i64 gy])) (m : Int) (hx : 4 ≤ gx ∧ gx ≤ 16) :
    FnV Try.prog w0 63 [(.pointer (some ⟨b, 0, none⟩)), (.int .i64 m)] σ (.bool (decide (0 ≤ m ∧ m ≤ gx - 1))) := by
  unfold FnV
  refine Fn.of_W 12 Try.func63 rfl Try.ntmps63 rfl ?_
  refine W.seq ?_
  refine W.region ?_
  refine L.v (o_assign (v := (.bool false)) rfl) ?_
  refine L.nil ?_
  refine W.seq ?_
  refine W.region ?_
  refine L.v (o_move (v := (.int .i64 m)) rfl) ?_
  refine L.v (o_move (v := (.pointer (some ⟨b, 0, none⟩))) rfl) ?_
  refine L.v (o_nilCheck (p := ⟨b, 0, none⟩) rfl) ?_
  refine L.v (o_fieldAddr (b := b) (off := 0) (o := 0) (run_fieldAt (f := 0) (fld := { name := "Wide", type := 2, offset := 0, embedded := false, tag := "", pkgPath := "", byteOffset := 0 }) Try.underlying27 rfl Try.sizeOf2 (Nat.succ_ne_zero _)) rfl) ?_
  refine L.v (o_load (b := b) (off := 0 + 0) (v := (.int .i64 gx)) Try.isAgg2 rfl (Rd.of hb rfl) rfl) ?_
  refine L.v (o_isub (a := gx) (b := 1) (c := gx - 1) rfl rfl (by rw [IntWalk.i64_in _ (by omega)]; try omega)) ?_
  refine L.v (v := (.bool (decide ((0 : Int) ≤ m ∧ (m : Int) ≤ (gx - 1))))) (op_call [(.int .i64 m), (.int .i64 0), (.int .i64 (gx - 1))] Try.call47 rfl (withinS m 0 (gx - 1))) ?_
  refine L.v (o_assign (v := (.bool (decide ((0 : Int) ≤ m ∧ (m : Int) ≤ (gx - 1))))) rfl) ?_
  refine L.nil ?_
  refine W.ret ?_
  exact RetK.one σ (.bool (decide ((0 : Int) ≤ m ∧ (m : Int) ≤ (gx - 1)))) rfl rfl (Ext.refl _) ⟨rfl, rfl⟩

theorem implIsMode {w0 : World} {σ : Sg} (gx gy : Int) (p : Option Addr) (n c : Nat) (m : Int) :
    FnV Try.prog w0 65 [(.agg #[(.int .i64 gx), (.int .i64 gy)]), (.slice p n c), (.int .i64 m)] σ (.bool (decide ((((4 ≤ gx ∧ gx ≤ 16) ∧ 4 ≤ gy ∧ gy ≤ 16) ∧ (n : Int) = gx * gy) ∧ 0 ≤ m ∧ m ≤ gx - 1))) := by
  unfold FnV
  refine Fn.of_W 17 Try.func65 rfl Try.ntmps65 rfl ?_
  refine W.seq ?_
  refine W.region ?_
  refine L.cons (o_box (v := (.agg #[(.int .i64 gx), (.int .i64 gy)])) rfl rfl [(.int .i64 gx), (.int .i64 gy)] rfl) ?_
  rintro _ _ ⟨b1, hf2, hw3, rfl, rfl⟩
  have fz7 := Ext.none (Ext.refl _) hf2
  have hb6 : (sg σ b1 (27, [(.int .i64 gx), (.int .i64 gy)])) b1 = some (27, [(.int .i64 gx), (.int .i64 gy)]) := sg_eq _ _ _
  have hx5 : Ext σ (sg σ b1 (27, [(.int .i64 gx), (.int .i64 gy)])) := (Ext.refl _).sg hf2
  have ehx5 := Ext.trans (Ext.refl _) hx5
  generalize hgs4 : sg σ b1 (27, [(.int .i64 gx), (.int .i64 gy)]) = s4 at *
  clear hgs4
  refine L.v (o_assign (v := (.bool false)) rfl) ?_
  refine L.nil ?_
  refine W.seq ?_
  refine W.region ?_
  refine L.v (o_loads (b := b1) (off := 0) (vs := [(.int .i64 gx), (.int .i64 gy)]) Try.isAgg27 Try.sizeOf27 rfl rfl (Rds.of hb6 (by intro j v hj; simpa using hj))) ?_
  refine L.v (o_move (v := (.slice p n c)) rfl) ?_
  refine L.v (v := (.bool (decide (((4 ≤ (gx : Int) ∧ (gx : Int) ≤ 16) ∧ 4 ≤ (gy : Int) ∧ (gy : Int) ≤ 16) ∧ (n : Int) = (gx : Int) * (gy : Int))))) (op_call [(.agg #[(.int .i64 gx), (.int .i64 gy)]), (.slice p n c)] Try.call95 rfl (implField gx gy p n c)) ?_
  refine L.v (o_move (v := (.bool (decide (((4 ≤ (gx : Int) ∧ (gx : Int) ≤ 16) ∧ 4 ≤ (gy : Int) ∧ (gy : Int) ≤ 16) ∧ (n : Int) = (gx : Int) * (gy : Int))))) rfl) ?_
  rcases Bool.eq_false_or_eq_true (decide (((4 ≤ (gx : Int) ∧ (gx : Int) ≤ 16) ∧ 4 ≤ (gy : Int) ∧ (gy : Int) ≤ 16) ∧ (n : Int) = (gx : Int) * (gy : Int))) with q8 | q8
  ·
    have a9 : ((4 ≤ (gx : Int) ∧ (gx : Int) ≤ 16) ∧ 4 ≤ (gy : Int) ∧ (gy : Int) ≤ 16) ∧ (n : Int) = (gx : Int) * (gy : Int) := of_decide_eq_true q8
    refine L.gv (j := 3) (d₁ := 10) (b := decide (((4 ≤ (gx : Int) ∧ (gx : Int) ≤ 16) ∧ 4 ≤ (gy : Int) ∧ (gy : Int) ≤ 16) ∧ (n : Int) = (gx : Int) * (gy : Int))) rfl rfl rfl q8 (o_move (v := (.int .i64 m)) rfl) ?_
    refine L.gv (j := 3) (d₁ := 10) (b := decide (((4 ≤ (gx : Int) ∧ (gx : Int) ≤ 16) ∧ 4 ≤ (gy : Int) ∧ (gy : Int) ≤ 16) ∧ (n : Int) = (gx : Int) * (gy : Int))) rfl rfl rfl q8 (o_fieldAddr (b := b1) (off := 0) (o := 0) (run_fieldAt (f := 0) (fld := { name := "Wide", type := 2, offset := 0, embedded := false, tag := "", pkgPath := "", byteOffset := 0 }) Try.underlying27 rfl Try.sizeOf2 (Nat.succ_ne_zero _)) rfl) ?_
    refine L.gv (j := 3) (d₁ := 10) (b := decide (((4 ≤ (gx : Int) ∧ (gx : Int) ≤ 16) ∧ 4 ≤ (gy : Int) ∧ (gy : Int) ≤ 16) ∧ (n : Int) = (gx : Int) * (gy : Int))) rfl rfl rfl q8 (o_load (b := b1) (off := 0 + 0) (v := (.int .i64 gx)) Try.isAgg2 rfl (Rd.of hb6 rfl) rfl) ?_
    refine L.gv (j := 3) (d₁ := 10) (b := decide (((4 ≤ (gx : Int) ∧ (gx : Int) ≤ 16) ∧ 4 ≤ (gy : Int) ∧ (gy : Int) ≤ 16) ∧ (n : Int) = (gx : Int) * (gy : Int))) rfl rfl rfl q8 (o_isub (a := gx) (b := 1) (c := gx - 1) rfl rfl (by rw [IntWalk.i64_in _ (by omega)]; try omega)) ?_
    refine L.gv (j := 3) (d₁ := 10) (b := decide (((4 ≤ (gx : Int) ∧ (gx : Int) ≤ 16) ∧ 4 ≤ (gy : Int) ∧ (gy : Int) ≤ 16) ∧ (n : Int) = (gx : Int) * (gy : Int))) rfl rfl rfl q8 (v := (.bool (decide ((0 : Int) ≤ m ∧ (m : Int) ≤ (gx - 1))))) (op_call [(.int .i64 m), (.int .i64 0), (.int .i64 (gx - 1))] Try.call50 rfl (withinI m 0 (gx - 1))) ?_
    refine L.v (o_pickT (b := decide (((4 ≤ (gx : Int) ∧ (gx : Int) ≤ 16) ∧ 4 ≤ (gy : Int) ∧ (gy : Int) ≤ 16) ∧ (n : Int) = (gx : Int) * (gy : Int))) (v := (.bool (decide ((0 : Int) ≤ m ∧ (m : Int) ≤ (gx - 1))))) rfl q8 rfl) ?_
    refine L.v (o_assign (v := (.bool (decide ((0 : Int) ≤ m ∧ (m : Int) ≤ (gx - 1))))) rfl) ?_
    refine L.nil ?_
    refine W.ret ?_
    exact RetK.one σ (.bool (decide ((0 : Int) ≤ m ∧ (m : Int) ≤ (gx - 1)))) rfl rfl ehx5 ⟨by first | rfl | (congr 1; exact decide_eq_decide.2 (by omega)) | (congr 1; exact (decide_eq_false (by omega)).symm) | (congr 1; exact (decide_eq_true (by omega)).symm), rfl⟩
  ·
    have a10 : ¬ (((4 ≤ (gx : Int) ∧ (gx : Int) ≤ 16) ∧ 4 ≤ (gy : Int) ∧ (gy : Int) ≤ 16) ∧ (n : Int) = (gx : Int) * (gy : Int)) := of_decide_eq_false q8
    refine L.gF (j := 3) (d₁ := 10) (b := decide (((4 ≤ (gx : Int) ∧ (gx : Int) ≤ 16) ∧ 4 ≤ (gy : Int) ∧ (gy : Int) ≤ 16) ∧ (n : Int) = (gx : Int) * (gy : Int))) rfl rfl rfl q8 ?_
    refine L.gF (j := 3) (d₁ := 10) (b := decide (((4 ≤ (gx : Int) ∧ (gx : Int) ≤ 16) ∧ 4 ≤ (gy : Int) ∧ (gy : Int) ≤ 16) ∧ (n : Int) = (gx : Int) * (gy : Int))) rfl rfl rfl q8 ?_
    refine L.gF (j := 3) (d₁ := 10) (b := decide (((4 ≤ (gx : Int) ∧ (gx : Int) ≤ 16) ∧ 4 ≤ (gy : Int) ∧ (gy : Int) ≤ 16) ∧ (n : Int) = (gx : Int) * (gy : Int))) rfl rfl rfl q8 ?_
    refine L.gF (j := 3) (d₁ := 10) (b := decide (((4 ≤ (gx : Int) ∧ (gx : Int) ≤ 16) ∧ 4 ≤ (gy : Int) ∧ (gy : Int) ≤ 16) ∧ (n : Int) = (gx : Int) * (gy : Int))) rfl rfl rfl q8 ?_
    refine L.gF (j := 3) (d₁ := 10) (b := decide (((4 ≤ (gx : Int) ∧ (gx : Int) ≤ 16) ∧ 4 ≤ (gy : Int) ∧ (gy : Int) ≤ 16) ∧ (n : Int) = (gx : Int) * (gy : Int))) rfl rfl rfl q8 ?_
    refine L.v (o_pickF (b := decide (((4 ≤ (gx : Int) ∧ (gx : Int) ≤ 16) ∧ 4 ≤ (gy : Int) ∧ (gy : Int) ≤ 16) ∧ (n : Int) = (gx : Int) * (gy : Int))) (v := (.bool false)) rfl q8 rfl) ?_
    refine L.v (o_assign (v := (.bool false)) rfl) ?_
    refine L.nil ?_
    refine W.ret ?_
    exact RetK.one σ (.bool false) rfl rfl ehx5 ⟨by first | rfl | (congr 1; exact decide_eq_decide.2 (by omega)) | (congr 1; exact (decide_eq_false (by omega)).symm) | (congr 1; exact (decide_eq_true (by omega)).symm), rfl⟩

theorem specModeOf {w0 : World} {σ : Sg} (gx gy m : Int) (p : Option Addr) (xs : List Nat) (hs : Sl σ 1 p (xs.map fl)) :
    FnV Try.prog w0 36 [(.agg #[(.int .i64 gx), (.int .i64 gy)]), (.slice p xs.length xs.length), (.int .i64 m)] σ (.tuple #[.complex .f32 (modeV gx gy m xs).1 (modeV gx gy m xs).2, .bool (modeB gx gy m xs)]) := by
  unfold FnV
  refine Fn.of_W 22 Try.func36 rfl Try.ntmps36 rfl ?_
  refine W.seq ?_
  refine W.region ?_
  refine L.cons (o_box (v := (.agg #[(.int .i64 gx), (.int .i64 gy)])) rfl rfl [(.int .i64 gx), (.int .i64 gy)] rfl) ?_
  rintro _ _ ⟨b1, hf2, hw3, rfl, rfl⟩
  have fz7 := Ext.none (Ext.refl _) hf2
  have hb6 : (sg σ b1 (27, [(.int .i64 gx), (.int .i64 gy)])) b1 = some (27, [(.int .i64 gx), (.int .i64 gy)]) := sg_eq _ _ _
  have hx5 : Ext σ (sg σ b1 (27, [(.int .i64 gx), (.int .i64 gy)])) := (Ext.refl _).sg hf2
  have hs8 := Sl.ext hs hx5
  have ehx5 := Ext.trans (Ext.refl _) hx5
  generalize hgs4 : sg σ b1 (27, [(.int .i64 gx), (.int .i64 gy)]) = s4 at *
  clear hgs4
  refine L.v (o_assign (v := (.complex .f32 0 0)) rfl) ?_
  refine L.v (o_assign (v := (.bool false)) rfl) ?_
  refine L.nil ?_
  refine W.seq ?_
  refine W.seq ?_
  refine W.region ?_
  refine L.v (o_move (v := (.slice p xs.length xs.length)) rfl) ?_
  refine L.v (v := (.bool (decide (((4 ≤ (gx : Int) ∧ (gx : Int) ≤ 16) ∧ 4 ≤ (gy : Int) ∧ (gy : Int) ≤ 16) ∧ (xs.length : Int) = (gx : Int) * (gy : Int))))) (op_call [(.pointer (some ⟨b1, 0, none⟩)), (.slice p xs.length xs.length)] Try.call62 rfl (specField b1 _ gx gy hb6 p xs.length xs.length)) ?_
  refine L.v (o_not (b := decide (((4 ≤ (gx : Int) ∧ (gx : Int) ≤ 16) ∧ 4 ≤ (gy : Int) ∧ (gy : Int) ≤ 16) ∧ (xs.length : Int) = (gx : Int) * (gy : Int))) rfl rfl) ?_
  refine L.v (o_move (v := (.bool (!(decide (((4 ≤ (gx : Int) ∧ (gx : Int) ≤ 16) ∧ 4 ≤ (gy : Int) ∧ (gy : Int) ≤ 16) ∧ (xs.length : Int) = (gx : Int) * (gy : Int)))))) rfl) ?_
  rcases Bool.eq_false_or_eq_true (!(decide (((4 ≤ (gx : Int) ∧ (gx : Int) ≤ 16) ∧ 4 ≤ (gy : Int) ∧ (gy : Int) ≤ 16) ∧ (xs.length : Int) = (gx : Int) * (gy : Int)))) with q9 | q9
  ·
    have a10 : ¬ (((4 ≤ (gx : Int) ∧ (gx : Int) ≤ 16) ∧ 4 ≤ (gy : Int) ∧ (gy : Int) ≤ 16) ∧ (xs.length : Int) = (gx : Int) * (gy : Int)) := of_decide_eq_false (bn_t q9)
    refine L.gF (j := 3) (d₁ := 11) (b := !(decide (((4 ≤ (gx : Int) ∧ (gx : Int) ≤ 16) ∧ 4 ≤ (gy : Int) ∧ (gy : Int) ≤ 16) ∧ (xs.length : Int) = (gx : Int) * (gy : Int)))) rfl rfl rfl q9 ?_
    refine L.gF (j := 3) (d₁ := 11) (b := !(decide (((4 ≤ (gx : Int) ∧ (gx : Int) ≤ 16) ∧ 4 ≤ (gy : Int) ∧ (gy : Int) ≤ 16) ∧ (xs.length : Int) = (gx : Int) * (gy : Int)))) rfl rfl rfl q9 ?_
    refine L.gF (j := 3) (d₁ := 11) (b := !(decide (((4 ≤ (gx : Int) ∧ (gx : Int) ≤ 16) ∧ 4 ≤ (gy : Int) ∧ (gy : Int) ≤ 16) ∧ (xs.length : Int) = (gx : Int) * (gy : Int)))) rfl rfl rfl q9 ?_
    refine L.v (o_pickT (b := !(decide (((4 ≤ (gx : Int) ∧ (gx : Int) ≤ 16) ∧ 4 ≤ (gy : Int) ∧ (gy : Int) ≤ 16) ∧ (xs.length : Int) = (gx : Int) * (gy : Int)))) (v := (.bool true)) rfl q9 rfl) ?_
    refine L.nil ?_
    refine W.condT (b := true) rfl rfl ?_
    refine W.seq ?_
    refine W.region ?_
    refine L.v (o_assign (v := (.complex .f32 0 0)) rfl) ?_
    refine L.v (o_assign (v := (.bool false)) rfl) ?_
    refine L.nil ?_
    refine W.ret ?_
    have hno : modeB gx gy m xs = false := decide_eq_false (by omega)
    exact RetK.two σ (.complex .f32 0 0) (.bool false) rfl rfl rfl rfl rfl ehx5 ⟨by rw [modeV_no hno, hno], rfl⟩
  ·
    have a11 : ((4 ≤ (gx : Int) ∧ (gx : Int) ≤ 16) ∧ 4 ≤ (gy : Int) ∧ (gy : Int) ≤ 16) ∧ (xs.length : Int) = (gx : Int) * (gy : Int) := of_decide_eq_true (bn_f q9)
    refine L.gv (j := 3) (d₁ := 11) (b := !(decide (((4 ≤ (gx : Int) ∧ (gx : Int) ≤ 16) ∧ 4 ≤ (gy : Int) ∧ (gy : Int) ≤ 16) ∧ (xs.length : Int) = (gx : Int) * (gy : Int)))) rfl rfl rfl q9 (o_move (v := (.int .i64 m)) rfl) ?_
    refine L.gv (j := 3) (d₁ := 11) (b := !(decide (((4 ≤ (gx : Int) ∧ (gx : Int) ≤ 16) ∧ 4 ≤ (gy : Int) ∧ (gy : Int) ≤ 16) ∧ (xs.length : Int) = (gx : Int) * (gy : Int)))) rfl rfl rfl q9 (v := (.bool (decide (0 ≤ m ∧ m ≤ gx - 1)))) (op_call [(.pointer (some ⟨b1, 0, none⟩)), (.int .i64 m)] Try.call63 rfl (specMode b1 _ gx gy hb6 m (by omega))) ?_
    refine L.gv (j := 3) (d₁ := 11) (b := !(decide (((4 ≤ (gx : Int) ∧ (gx : Int) ≤ 16) ∧ 4 ≤ (gy : Int) ∧ (gy : Int) ≤ 16) ∧ (xs.length : Int) = (gx : Int) * (gy : Int)))) rfl rfl rfl q9 (o_not (b := decide (0 ≤ m ∧ m ≤ gx - 1)) rfl rfl) ?_
    refine L.v (o_pickF (b := !(decide (((4 ≤ (gx : Int) ∧ (gx : Int) ≤ 16) ∧ 4 ≤ (gy : Int) ∧ (gy : Int) ≤ 16) ∧ (xs.length : Int) = (gx : Int) * (gy : Int)))) (v := (.bool (!(decide (0 ≤ m ∧ m ≤ gx - 1))))) rfl q9 rfl) ?_
    refine L.nil ?_
    refine W.cond (b := !(decide (0 ≤ m ∧ m ≤ gx - 1))) rfl (fun q12 => ?_) (fun q12 => ?_)
    ·
      have a13 : ¬ (0 ≤ m ∧ m ≤ gx - 1) := of_decide_eq_false (bn_t q12)
      refine W.seq ?_
      refine W.region ?_
      refine L.v (o_assign (v := (.complex .f32 0 0)) rfl) ?_
      refine L.v (o_assign (v := (.bool false)) rfl) ?_
      refine L.nil ?_
      refine W.ret ?_
      have hno : modeB gx gy m xs = false := decide_eq_false (by omega)
      exact RetK.two σ (.complex .f32 0 0) (.bool false) rfl rfl rfl rfl rfl ehx5 ⟨by rw [modeV_no hno, hno], rfl⟩
    ·
      have a14 : 0 ≤ m ∧ m ≤ gx - 1 := of_decide_eq_true (bn_f q12)
      refine W.skip ?_
      refine W.seq ?_
      obtain ⟨w, rfl⟩ : ∃ w : Nat, gx = (w : Int) := ⟨gx.toNat, by omega⟩
      obtain ⟨h, rfl⟩ : ∃ h : Nat, gy = (h : Int) := ⟨gy.toNat, by omega⟩
      obtain ⟨k, rfl⟩ : ∃ k : Nat, m = (k : Int) := ⟨m.toNat, by omega⟩
      refine W.region ?_
      refine L.v (o_move (v := (.slice p xs.length xs.length)) rfl) ?_
      refine L.cons (op_call [(.pointer (some ⟨b1, 0, none⟩)), (.slice p xs.length xs.length)] Try.call64 rfl (specMeanL b1 _ w h hb6 p xs hs8 (by omega) (by omega) (by omega))) ?_
      rintro _ s17 ⟨p15, c16, rfl, fs18⟩
      have ap19 : Apart ((meanTo xs w h w).length) (xs.length) p15 p := by simpa using Fsl.apart fs18 hs8 (fl_ne _)
      have ne20 := Fsl.ne fs18 hb6
      have hs21 := Sl.ext hs8 fs18.ext
      have hb22 := fs18.ext _ _ hb6
      have ex23 := Ext.trans ehx5 fs18.ext
      have mu24 := Fsl.mut fs18 ((meanTo xs w h w).length) (by simp)
      refine L.cons (op_call [(.slice p15 w c16)] Try.call59 rfl ((by have h9 := specSpectrum (w0 := w0) (σ := s17) p15 c16 (meanTo xs w h w) (Fsl.reads fs18) (by rw [meanTo_len]; omega); rwa [meanTo_len] at h9))) ?_
      rintro _ s27 ⟨p25, c26, rfl, fs28⟩
      have ap29 : Apart (w) (xs.length) p25 p := by simpa using Fsl.apart fs28 hs21 (fl_ne _)
      have ne30 := Fsl.ne fs28 hb22
      have ap31 : Apart (w) ((meanTo xs w h w).length) p25 p15 := by simpa using Fsl.apart fs28 (Fsl.reads fs18) (fl_ne _)
      have hs32 := Sl.ext hs21 fs28.ext
      have hb33 := fs28.ext _ _ hb22
      have hs34 := Sl.ext (Fsl.reads fs18) fs28.ext
      have mu35 := Mut.ext mu24 fs28.ext
      have ex36 := Ext.trans ex23 fs28.ext
      have mu37 := Fsl.mut fs28 (w) (by simp)
      refine L.v (o_move (v := (.int .i64 (k : Int))) rfl) ?_
      obtain ⟨cb, co, rfl, _⟩ := Sl.elem (Fsl.reads fs28) k (by rw [speTo_len]; omega) (0, 0)
      refine L.v (o_indexAddr (b := cb) (off := co) (n := w) (c := c26) k Try.underlying50 Try.sizeOf57 rfl rfl (by omega)) ?_
      have hcr := Sl.at (Fsl.reads fs28) k (by rw [speTo_len]; omega) (0, 0)
      rw [speTo_at (by omega)] at hcr
      refine L.v (o_load (b := cb) (off := co + k * 1) (v := (.complex .f32 ((speS (meanTo xs w h w) (meanTo xs w h w).length k (meanTo xs w h w).length).1) ((speS (meanTo xs w h w) (meanTo xs w h w).length k (meanTo xs w h w).length).2))) Try.isAgg57 rfl (Rds.one hcr) rfl) ?_
      refine L.v (o_assign (v := (.complex .f32 ((speS (meanTo xs w h w) (meanTo xs w h w).length k (meanTo xs w h w).length).1) ((speS (meanTo xs w h w) (meanTo xs w h w).length k (meanTo xs w h w).length).2))) rfl) ?_
      refine L.v (o_assign (v := (.bool true)) rfl) ?_
      refine L.nil ?_
      refine W.ret ?_
      have hyes : modeB (w : Int) (h : Int) (k : Int) xs = true := decide_eq_true (by omega)
      exact RetK.two σ (.complex .f32 ((speS (meanTo xs w h w) (meanTo xs w h w).length k (meanTo xs w h w).length).1) ((speS (meanTo xs w h w) (meanTo xs w h w).length k (meanTo xs w h w).length).2)) (.bool true) rfl rfl rfl rfl rfl ex36 ⟨by rw [modeV_yes hyes, hyes], rfl⟩

theorem implModeOf {w0 : World} {σ : Sg} (gx gy m : Int) (p : Option Addr) (xs : List Nat) (hs : Sl σ 1 p (xs.map fl)) :
    FnV Try.prog w0 37 [(.agg #[(.int .i64 gx), (.int .i64 gy)]), (.slice p xs.length xs.length), (.int .i64 m)] σ (.tuple #[.complex .f32 (modeV gx gy m xs).1 (modeV gx gy m xs).2, .bool (modeB gx gy m xs)]) := by
  unfold FnV
  refine Fn.of_W 20 Try.func37 rfl Try.ntmps37 rfl ?_
  refine W.seq ?_
  refine W.region ?_
  refine L.cons (o_box (v := (.agg #[(.int .i64 gx), (.int .i64 gy)])) rfl rfl [(.int .i64 gx), (.int .i64 gy)] rfl) ?_
  rintro _ _ ⟨b1, hf2, hw3, rfl, rfl⟩
  have fz7 := Ext.none (Ext.refl _) hf2
  have hb6 : (sg σ b1 (27, [(.int .i64 gx), (.int .i64 gy)])) b1 = some (27, [(.int .i64 gx), (.int .i64 gy)]) := sg_eq _ _ _
  have hx5 : Ext σ (sg σ b1 (27, [(.int .i64 gx), (.int .i64 gy)])) := (Ext.refl _).sg hf2
  have hs8 := Sl.ext hs hx5
  have ehx5 := Ext.trans (Ext.refl _) hx5
  generalize hgs4 : sg σ b1 (27, [(.int .i64 gx), (.int .i64 gy)]) = s4 at *
  clear hgs4
  refine L.v (o_assign (v := (.complex .f32 0 0)) rfl) ?_
  refine L.v (o_assign (v := (.bool false)) rfl) ?_
  refine L.nil ?_
  refine W.seq ?_
  refine W.seq ?_
  refine W.region ?_
  refine L.v (o_loads (b := b1) (off := 0) (vs := [(.int .i64 gx), (.int .i64 gy)]) Try.isAgg27 Try.sizeOf27 rfl rfl (Rds.of hb6 (by intro j v hj; simpa using hj))) ?_
  refine L.v (o_move (v := (.slice p xs.length xs.length)) rfl) ?_
  refine L.v (o_move (v := (.int .i64 m)) rfl) ?_
  refine L.v (v := (.bool (decide ((((4 ≤ (gx : Int) ∧ (gx : Int) ≤ 16) ∧ 4 ≤ (gy : Int) ∧ (gy : Int) ≤ 16) ∧ (xs.length : Int) = gx * gy) ∧ 0 ≤ m ∧ m ≤ gx - 1)))) (op_call [(.agg #[(.int .i64 gx), (.int .i64 gy)]), (.slice p xs.length xs.length), (.int .i64 m)] Try.call65 rfl (implIsMode gx gy p xs.length xs.length m)) ?_
  refine L.v (o_not (b := decide ((((4 ≤ (gx : Int) ∧ (gx : Int) ≤ 16) ∧ 4 ≤ (gy : Int) ∧ (gy : Int) ≤ 16) ∧ (xs.length : Int) = gx * gy) ∧ 0 ≤ m ∧ m ≤ gx - 1)) rfl rfl) ?_
  refine L.nil ?_
  refine W.cond (b := !(decide ((((4 ≤ (gx : Int) ∧ (gx : Int) ≤ 16) ∧ 4 ≤ (gy : Int) ∧ (gy : Int) ≤ 16) ∧ (xs.length : Int) = gx * gy) ∧ 0 ≤ m ∧ m ≤ gx - 1))) rfl (fun q9 => ?_) (fun q9 => ?_)
  ·
    have a10 : ¬ ((((4 ≤ (gx : Int) ∧ (gx : Int) ≤ 16) ∧ 4 ≤ (gy : Int) ∧ (gy : Int) ≤ 16) ∧ (xs.length : Int) = gx * gy) ∧ 0 ≤ m ∧ m ≤ gx - 1) := of_decide_eq_false (bn_t q9)
    refine W.seq ?_
    refine W.region ?_
    refine L.v (o_assign (v := (.complex .f32 0 0)) rfl) ?_
    refine L.v (o_assign (v := (.bool false)) rfl) ?_
    refine L.nil ?_
    refine W.ret ?_
    have hno : modeB gx gy m xs = false := decide_eq_false (by omega)
    exact RetK.two σ (.complex .f32 0 0) (.bool false) rfl rfl rfl rfl rfl ehx5 ⟨by rw [modeV_no hno, hno], rfl⟩
  ·
    have a11 : (((4 ≤ (gx : Int) ∧ (gx : Int) ≤ 16) ∧ 4 ≤ (gy : Int) ∧ (gy : Int) ≤ 16) ∧ (xs.length : Int) = gx * gy) ∧ 0 ≤ m ∧ m ≤ gx - 1 := of_decide_eq_true (bn_f q9)
    refine W.skip ?_
    refine W.seq ?_
    obtain ⟨w, rfl⟩ : ∃ w : Nat, gx = (w : Int) := ⟨gx.toNat, by omega⟩
    obtain ⟨h, rfl⟩ : ∃ h : Nat, gy = (h : Int) := ⟨gy.toNat, by omega⟩
    obtain ⟨k, rfl⟩ : ∃ k : Nat, m = (k : Int) := ⟨m.toNat, by omega⟩
    refine W.region ?_
    refine L.v (o_loads (b := b1) (off := 0) (vs := [(.int .i64 (w : Int)), (.int .i64 (h : Int))]) Try.isAgg27 Try.sizeOf27 rfl rfl (Rds.of hb6 (by intro j v hj; simpa using hj))) ?_
    refine L.v (o_move (v := (.slice p xs.length xs.length)) rfl) ?_
    refine L.cons (op_call [(.agg #[(.int .i64 (w : Int)), (.int .i64 (h : Int))]), (.slice p xs.length xs.length)] Try.call66 rfl (gridMean w h p xs hs8 (by omega) (by omega) (by omega))) ?_
    rintro _ s14 ⟨p12, c13, rfl, fs15⟩
    have ap16 : Apart ((meanTo xs w h w).length) (xs.length) p12 p := by simpa using Fsl.apart fs15 hs8 (fl_ne _)
    have ne17 := Fsl.ne fs15 hb6
    have hs18 := Sl.ext hs8 fs15.ext
    have hb19 := fs15.ext _ _ hb6
    have ex20 := Ext.trans ehx5 fs15.ext
    have mu21 := Fsl.mut fs15 ((meanTo xs w h w).length) (by simp)
    refine L.cons (op_call [(.slice p12 w c13)] Try.call61 rfl ((by have h9 := implSpectrum (w0 := w0) (σ := s14) p12 c13 (meanTo xs w h w) (Fsl.reads fs15) (by rw [meanTo_len]; omega); rwa [meanTo_len] at h9))) ?_
    rintro _ s24 ⟨p22, c23, rfl, fs25⟩
    have ap26 : Apart (w) (xs.length) p22 p := by simpa using Fsl.apart fs25 hs18 (fl_ne _)
    have ne27 := Fsl.ne fs25 hb19
    have ap28 : Apart (w) ((meanTo xs w h w).length) p22 p12 := by simpa using Fsl.apart fs25 (Fsl.reads fs15) (fl_ne _)
    have hs29 := Sl.ext hs18 fs25.ext
    have hb30 := fs25.ext _ _ hb19
    have hs31 := Sl.ext (Fsl.reads fs15) fs25.ext
    have mu32 := Mut.ext mu21 fs25.ext
    have ex33 := Ext.trans ex20 fs25.ext
    have mu34 := Fsl.mut fs25 (w) (by simp)
    refine L.v (o_move (v := (.int .i64 (k : Int))) rfl) ?_
    obtain ⟨cb, co, rfl, _⟩ := Sl.elem (Fsl.reads fs25) k (by rw [speTo_len]; omega) (0, 0)
    refine L.v (o_indexAddr (b := cb) (off := co) (n := w) (c := c23) k Try.underlying50 Try.sizeOf57 rfl rfl (by omega)) ?_
    have hcr := Sl.at (Fsl.reads fs25) k (by rw [speTo_len]; omega) (0, 0)
    rw [speTo_at (by omega)] at hcr
    refine L.v (o_load (b := cb) (off := co + k * 1) (v := (.complex .f32 ((speS (meanTo xs w h w) (meanTo xs w h w).length k (meanTo xs w h w).length).1) ((speS (meanTo xs w h w) (meanTo xs w h w).length k (meanTo xs w h w).length).2))) Try.isAgg57 rfl (Rds.one hcr) rfl) ?_
    refine L.v (o_assign (v := (.complex .f32 ((speS (meanTo xs w h w) (meanTo xs w h w).length k (meanTo xs w h w).length).1) ((speS (meanTo xs w h w) (meanTo xs w h w).length k (meanTo xs w h w).length).2))) rfl) ?_
    refine L.v (o_assign (v := (.bool true)) rfl) ?_
    refine L.nil ?_
    refine W.ret ?_
    have hyes : modeB (w : Int) (h : Int) (k : Int) xs = true := decide_eq_true (by omega)
    exact RetK.two σ (.complex .f32 ((speS (meanTo xs w h w) (meanTo xs w h w).length k (meanTo xs w h w).length).1) ((speS (meanTo xs w h w) (meanTo xs w h w).length k (meanTo xs w h w).length).2)) (.bool true) rfl rfl rfl rfl rfl ex33 ⟨by rw [modeV_yes hyes, hyes], rfl⟩

theorem lawMode2 {w0 : World} {σ : Sg} (gx gy : Int) (p : Option Addr) (c : Nat) (xs : List Nat) (hs : Sl σ 1 p (xs.map fl)) (m : Int) (bm : -9223372036854775808 ≤ m ∧ m ≤ 9223372036854775807) :
    Fn Try.prog w0 8 [(.agg #[(.int .i64 gx), (.int .i64 gy)]), (.slice p xs.length c), (.int .i64 m)] σ (fun u _ => u = .bool true) := by
  refine Fn.of_W 50 Try.func8 rfl Try.ntmps8 rfl ?_
  refine W.seq ?_
  refine W.region ?_
  refine L.cons (o_box (v := (.agg #[(.int .i64 gx), (.int .i64 gy)])) rfl rfl [(.int .i64 gx), (.int .i64 gy)] rfl) ?_
  rintro _ _ ⟨b1, hf2, hw3, rfl, rfl⟩
  have hb6 : (sg σ b1 (23, [(.int .i64 gx), (.int .i64 gy)])) b1 = some (23, [(.int .i64 gx), (.int .i64 gy)]) := sg_eq _ _ _
  have hx5 : Ext σ (sg σ b1 (23, [(.int .i64 gx), (.int .i64 gy)])) := (Ext.refl _).sg hf2
  have hs7 := Sl.ext hs hx5
  have ehx5 := Ext.trans (Ext.refl _) hx5
  generalize hgs4 : sg σ b1 (23, [(.int .i64 gx), (.int .i64 gy)]) = s4 at *
  clear hgs4
  refine L.v (o_assign (v := (.bool false)) rfl) ?_
  refine L.nil ?_
  refine W.seq ?_
  refine W.seq ?_
  refine W.region ?_
  refine L.v (o_move (v := (.slice p xs.length c)) rfl) ?_
  refine L.v (o_len (p := p) (n := xs.length) (c := c) Try.underlying32 rfl) ?_
  refine L.v (o_igtr (a := (xs.length : Int)) (b := 1048576) rfl rfl rfl) ?_
  refine L.nil ?_
  refine W.cond (b := decide ((1048576 : Int) < (xs.length : Int))) rfl (fun q8 => ?_) (fun q8 => ?_)
  ·
    have a9 : (1048576 : Int) < (xs.length : Int) := of_decide_eq_true q8
    refine W.seq ?_
    refine W.region ?_
    refine L.v (o_assign (v := (.bool true)) rfl) ?_
    refine L.nil ?_
    refine W.ret ?_
    exact RetK.one _ (.bool true) rfl rfl (Ext.refl _) rfl
  ·
    have a10 : ¬ ((1048576 : Int) < (xs.length : Int)) := of_decide_eq_false q8
    refine W.skip ?_
    refine W.seq ?_
    refine W.region ?_
    refine L.v (o_loads (b := b1) (off := 0) (vs := [(.int .i64 gx), (.int .i64 gy)]) Try.isAgg23 Try.sizeOf23 rfl rfl (Rds.of hb6 (by intro j v hj; simpa using hj))) ?_
    refine L.v (v := (.agg #[(.int .i64 gx), (.int .i64 gy)])) (op_call [(.agg #[(.int .i64 gx), (.int .i64 gy)])] Try.call12 rfl (toGrid_c gx gy)) ?_
    refine L.v (o_move (v := (.slice p xs.length c)) rfl) ?_
    refine L.cons (op_call [(.slice p xs.length c)] Try.call31 rfl (toF32S p c xs hs7 (by omega))) ?_
    rintro _ s13 ⟨p11, rfl, fs14⟩
    have ap15 : Apart (xs.length) (xs.length) p11 p := by simpa using Fsl.apart fs14 hs7 (fl_ne _)
    have ne16 := Fsl.ne fs14 hb6
    have hs17 := Sl.ext hs7 fs14.ext
    have hb18 := fs14.ext _ _ hb6
    have ex19 := Ext.trans ehx5 fs14.ext
    have mu20 := Fsl.mut fs14 (xs.length) (by simp)
    refine L.v (o_move (v := (.int .i64 m)) rfl) ?_
    refine L.v (v := (.tuple #[(.complex .f32 ((modeV gx gy m xs).1) ((modeV gx gy m xs).2)), (.bool (modeB gx gy m xs))])) (op_call [(.agg #[(.int .i64 gx), (.int .i64 gy)]), (.slice p11 xs.length xs.length), (.int .i64 m)] Try.call36 rfl (specModeOf gx gy m p11 xs (Fsl.reads fs14))) ?_
    refine L.v (o_move (v := (.tuple #[(.complex .f32 ((modeV gx gy m xs).1) ((modeV gx gy m xs).2)), (.bool (modeB gx gy m xs))])) rfl) ?_
    refine L.v (o_extract (vs := #[(.complex .f32 ((modeV gx gy m xs).1) ((modeV gx gy m xs).2)), (.bool (modeB gx gy m xs))]) (v := (.complex .f32 ((modeV gx gy m xs).1) ((modeV gx gy m xs).2))) rfl rfl rfl) ?_
    refine L.v (o_extract (vs := #[(.complex .f32 ((modeV gx gy m xs).1) ((modeV gx gy m xs).2)), (.bool (modeB gx gy m xs))]) (v := (.bool (modeB gx gy m xs))) rfl rfl rfl) ?_
    refine L.v (o_assign (v := (.complex .f32 ((modeV gx gy m xs).1) ((modeV gx gy m xs).2))) rfl) ?_
    refine L.v (o_assign (v := (.bool (modeB gx gy m xs))) rfl) ?_
    refine L.nil ?_
    refine W.seq ?_
    refine W.region ?_
    refine L.v (o_move (v := (.slice p xs.length c)) rfl) ?_
    refine L.cons (op_call [(.slice p xs.length c)] Try.call31 rfl (toF32S p c xs hs17 (by omega))) ?_
    rintro _ s23 ⟨p21, rfl, fs24⟩
    have ap25 : Apart (xs.length) (xs.length) p21 p := by simpa using Fsl.apart fs24 hs17 (fl_ne _)
    have ne26 := Fsl.ne fs24 hb18
    have ap27 : Apart (xs.length) (xs.length) p21 p11 := by simpa using Fsl.apart fs24 (Fsl.reads fs14) (fl_ne _)
    have hs28 := Sl.ext hs17 fs24.ext
    have hb29 := fs24.ext _ _ hb18
    have hs30 := Sl.ext (Fsl.reads fs14) fs24.ext
    have mu31 := Mut.ext mu20 fs24.ext
    have ex32 := Ext.trans ex19 fs24.ext
    have mu33 := Fsl.mut fs24 (xs.length) (by simp)
    refine L.v (o_assign (v := (.slice p21 xs.length xs.length)) rfl) ?_
    refine L.nil ?_
    refine W.seq ?_
    refine W.region ?_
    refine L.v (o_loads (b := b1) (off := 0) (vs := [(.int .i64 gx), (.int .i64 gy)]) Try.isAgg23 Try.sizeOf23 rfl rfl (Rds.of hb29 (by intro j v hj; simpa using hj))) ?_
    refine L.v (v := (.agg #[(.int .i64 gx), (.int .i64 gy)])) (op_call [(.agg #[(.int .i64 gx), (.int .i64 gy)])] Try.call12 rfl (toGrid_c gx gy)) ?_
    refine L.v (o_move (v := (.slice p21 xs.length xs.length)) rfl) ?_
    refine L.v (o_move (v := (.int .i64 m)) rfl) ?_
    refine L.v (v := (.tuple #[(.complex .f32 ((modeV gx gy m xs).1) ((modeV gx gy m xs).2)), (.bool (modeB gx gy m xs))])) (op_call [(.agg #[(.int .i64 gx), (.int .i64 gy)]), (.slice p21 xs.length xs.length), (.int .i64 m)] Try.call37 rfl (implModeOf gx gy m p21 xs (Fsl.reads fs24))) ?_
    refine L.v (o_move (v := (.tuple #[(.complex .f32 ((modeV gx gy m xs).1) ((modeV gx gy m xs).2)), (.bool (modeB gx gy m xs))])) rfl) ?_
    refine L.v (o_extract (vs := #[(.complex .f32 ((modeV gx gy m xs).1) ((modeV gx gy m xs).2)), (.bool (modeB gx gy m xs))]) (v := (.complex .f32 ((modeV gx gy m xs).1) ((modeV gx gy m xs).2))) rfl rfl rfl) ?_
    refine L.v (o_extract (vs := #[(.complex .f32 ((modeV gx gy m xs).1) ((modeV gx gy m xs).2)), (.bool (modeB gx gy m xs))]) (v := (.bool (modeB gx gy m xs))) rfl rfl rfl) ?_
    refine L.v (o_assign (v := (.complex .f32 ((modeV gx gy m xs).1) ((modeV gx gy m xs).2))) rfl) ?_
    refine L.v (o_assign (v := (.bool (modeB gx gy m xs))) rfl) ?_
    refine L.nil ?_
    refine W.seq ?_
    refine W.seq ?_
    refine W.region ?_
    refine L.v (o_move (v := (.complex .f32 ((modeV gx gy m xs).1) ((modeV gx gy m xs).2))) rfl) ?_
    refine L.v (o_cvCC (s := .f32) (d := .f64) (a := (modeV gx gy m xs).1) (b := (modeV gx gy m xs).2) (by rw [Try.underlying57]; rfl) Try.underlying61 rfl (okw ((modeV gx gy m xs).1)) (okw ((modeV gx gy m xs).2))) ?_
    refine L.v (o_move (v := (.complex .f32 ((modeV gx gy m xs).1) ((modeV gx gy m xs).2))) rfl) ?_
    refine L.v (o_cvCC (s := .f32) (d := .f64) (a := (modeV gx gy m xs).1) (b := (modeV gx gy m xs).2) (by rw [Try.underlying57]; rfl) Try.underlying61 rfl (okw ((modeV gx gy m xs).1)) (okw ((modeV gx gy m xs).2))) ?_
    refine L.v (v := (.bool true)) (op_call [(.complex .f64 (cvt .f32 .f64 ((modeV gx gy m xs).1)) (cvt .f32 .f64 ((modeV gx gy m xs).2))), (.complex .f64 (cvt .f32 .f64 ((modeV gx gy m xs).1)) (cvt .f32 .f64 ((modeV gx gy m xs).2)))] Try.call38 rfl (sameComplex_c (cvt .f32 .f64 ((modeV gx gy m xs).1)) (cvt .f32 .f64 ((modeV gx gy m xs).2)))) ?_
    refine L.v (o_not (b := true) (c := false) rfl rfl) ?_
    refine L.v (o_move (v := (.bool false)) rfl) ?_
    refine L.gv (j := 6) (d₁ := 40) (b := false) rfl rfl rfl rfl (o_move (v := (.bool (modeB gx gy m xs))) rfl) ?_
    refine L.gv (j := 6) (d₁ := 40) (b := false) rfl rfl rfl rfl (o_move (v := (.bool (modeB gx gy m xs))) rfl) ?_
    refine L.gv (j := 6) (d₁ := 40) (b := false) rfl rfl rfl rfl (o_bneq (a := modeB gx gy m xs) (b := modeB gx gy m xs) (c := false) Try.underlying4 rfl rfl (by simp)) ?_
    refine L.v (o_pickF (b := false) (v := (.bool false)) rfl rfl rfl) ?_
    refine L.nil ?_
    refine W.condF (b := false) rfl rfl ?_
    refine W.skip ?_
    refine W.seq ?_
    refine W.seq ?_
    refine W.region ?_
    refine L.v (o_move (v := (.slice p21 xs.length xs.length)) rfl) ?_
    refine L.v (o_move (v := (.slice p xs.length c)) rfl) ?_
    refine L.cons (op_call [(.slice p xs.length c)] Try.call31 rfl (toF32S p c xs hs28 (by omega))) ?_
    rintro _ s36 ⟨p34, rfl, fs37⟩
    have ap38 : Apart (xs.length) (xs.length) p34 p := by simpa using Fsl.apart fs37 hs28 (fl_ne _)
    have ne39 := Fsl.ne fs37 hb29
    have ap40 : Apart (xs.length) (xs.length) p34 p11 := by simpa using Fsl.apart fs37 hs30 (fl_ne _)
    have ap41 : Apart (xs.length) (xs.length) p34 p21 := by simpa using Fsl.apart fs37 (Fsl.reads fs24) (fl_ne _)
    have hs42 := Sl.ext hs28 fs37.ext
    have hb43 := fs37.ext _ _ hb29
    have hs44 := Sl.ext hs30 fs37.ext
    have mu45 := Mut.ext mu31 fs37.ext
    have hs46 := Sl.ext (Fsl.reads fs24) fs37.ext
    have mu47 := Mut.ext mu33 fs37.ext
    have ex48 := Ext.trans ex32 fs37.ext
    have mu49 := Fsl.mut fs37 (xs.length) (by simp)
    refine L.v (v := (.bool true)) (op_call [(.slice p21 xs.length xs.length), (.slice p34 xs.length xs.length)] Try.call17 rfl (eqF32S p21 p34 xs.length xs.length xs hs46 (Fsl.reads fs37) (by omega))) ?_
    refine L.v (o_not (b := true) (c := false) rfl rfl) ?_
    refine L.nil ?_
    refine W.condF (b := false) rfl rfl ?_
    refine W.skip ?_
    refine W.seq ?_
    refine W.region ?_
    refine L.v (o_assign (v := (.bool true)) rfl) ?_
    refine L.nil ?_
    refine W.ret ?_
    exact RetK.one _ (.bool true) rfl rfl (Ext.refl _) rfl

end Go.Proofs.Ytnonlibekcacgaa.En
