/- RowOf in the program and in the reference, and its law: what each call gives, for every grid, every list that can be read and every number. -/
import Derived.Test.YtpgmpjejfpmnoaaEngN
import Derived.Test.YtpgmpjejfpmnoaaLib
import Derived.Test.YtpgmpjejfpmnoaaRows
namespace Go.Proofs.Ytpgmpjejfpmnoaa.En
open Go
set_option linter.unusedVariables false
def rowC (gx gy y : Int) (xs : List Nat) : Prop := (((4 ≤ gx ∧ gx ≤ 16) ∧ 4 ≤ gy ∧ gy ≤ 16) ∧ (xs.length : Int) = gx * gy) ∧ 0 ≤ y ∧ y ≤ gy - 1
instance (gx gy y : Int) (xs : List Nat) : Decidable (rowC gx gy y xs) := by unfold rowC; infer_instance
def rowF (gx gy y : Int) (xs : List Nat) : List Nat := if rowC gx gy y xs then sub xs (gx.toNat * y.toNat) gx.toNat else []
def rowB (gx gy y : Int) (xs : List Nat) : Bool := decide (rowC gx gy y xs)
theorem rowF_no {gx gy y : Int} {xs : List Nat} (h : ¬ ((((4 ≤ gx ∧ gx ≤ 16) ∧ 4 ≤ gy ∧ gy ≤ 16) ∧ (xs.length : Int) = gx * gy) ∧ 0 ≤ y ∧ y ≤ gy - 1)) : rowF gx gy y xs = [] := if_neg h
theorem rowB_no {gx gy y : Int} {xs : List Nat} (h : ¬ ((((4 ≤ gx ∧ gx ≤ 16) ∧ 4 ≤ gy ∧ gy ≤ 16) ∧ (xs.length : Int) = gx * gy) ∧ 0 ≤ y ∧ y ≤ gy - 1)) : rowB gx gy y xs = false := decide_eq_false h
theorem rowF_yes {w h y : Nat} {xs : List Nat} (hc : (((4 ≤ (w : Int) ∧ (w : Int) ≤ 16) ∧ 4 ≤ (h : Int) ∧ (h : Int) ≤ 16) ∧ (xs.length : Int) = (w : Int) * (h : Int)) ∧ 0 ≤ (y : Int) ∧ (y : Int) ≤ (h : Int) - 1) : rowF w h y xs = sub xs (w * y) w := if_pos hc
theorem rowB_yes {w h y : Nat} {xs : List Nat} (hc : (((4 ≤ (w : Int) ∧ (w : Int) ≤ 16) ∧ 4 ≤ (h : Int) ∧ (h : Int) ≤ 16) ∧ (xs.length : Int) = (w : Int) * (h : Int)) ∧ 0 ≤ (y : Int) ∧ (y : Int) ≤ (h : Int) - 1) : rowB w h y xs = true := decide_eq_true hc
theorem rowF_le (gx gy y : Int) (xs : List Nat) : (rowF gx gy y xs).length ≤ 1048576 := by
  by_cases h : rowC gx gy y xs
  · rw [rowF, if_pos h, sub_len]; unfold rowC at h; omega
  · rw [rowF, if_neg h]; simp
theorem clone32 {w0 : World} {σ : Sg} (b off m c : Nat) (ys : List Nat) (hl : ys.length = m) (hm : 0 < m) (hm2 : m ≤ 1048576) (hr : Rds σ b off (ys.map (Value.float .f32))) :
    Fn Try.prog w0 42 [(.slice (some ⟨b, off, none⟩) m c)] σ (RetFS w0 σ 1 (ys.map fl) m id) := by
  refine Fn.of_W 8 Try.func42 rfl Try.ntmps42 rfl ?_
  refine W.seq ?_
  refine W.region ?_
  refine L.v (o_assign (v := (.slice none 0 0)) rfl) ?_
  refine L.nil ?_
  refine W.seq ?_
  refine W.seq ?_
  refine W.region ?_
  refine L.v (o_move (v := (.slice (some ⟨b, off, none⟩) m c)) rfl) ?_
  refine L.v (o_slnil (b := b) (off := off) (n := m) (c := c) Try.underlying24 rfl rfl) ?_
  refine L.nil ?_
  refine W.condF (b := false) rfl rfl ?_
  refine W.skip ?_
  refine W.seq ?_
  refine W.region ?_
  refine L.cons (o_buildSlice (info := Try.t56) (z := .float .f32 0) [] Try.underlying24 Try.type56 rfl rfl rfl rfl (by decide) rfl rfl (by simp [Value.oneCell'])) ?_
  rintro _ _ ⟨b1, hf2, hw3, rfl, rfl⟩
  refine L.v (o_move (v := (.slice (some ⟨b, off, none⟩) m c)) rfl) ?_
  have ho0 := Own.new (σ := σ) (e := 56) 1 hw3
  have hx0 : Ext σ (sg σ b1 (56, [])) := (Ext.refl _).sg hf2
  have hv0 := ownAt (n := 0) (c := 0) hf2
  refine L.cons (o_append (info := Try.t56) (z := .float .f32 0) (size := 1) (bytes := 4) (v := (.slice (some ⟨b1, 0, none⟩) 0 0)) (n := 0) (m := m) (c := c) (b := b) (off := off) (xs := []) (news := (ys).map (Value.float .f32)) Try.underlying24 Try.type56 rfl rfl rfl rfl rfl ho0 rfl (by omega) (by rw [List.length_map]; omega) (Rds.ext hr hx0) (by simp [Value.oneCell']) (by unfold maxLen; omega) (by omega)) ?_
  rintro v2 s2 ⟨h3, h4⟩
  have hx2 := Grew.ext h4 hx0 hv0
  have hv2 := Grew.fresh h4 hx0 hv0
  refine L.v (o_assign (v := v2) rfl) ?_
  refine L.nil ?_
  refine W.ret ?_
  obtain ⟨p', c', hpc, hfs⟩ := Fsl.of_own (rows := (ys).map fl) (n := m) (by rw [flat_fl]; have h := h3; rwa [Nat.zero_add, List.nil_append] at h) (by rw [List.length_map, hl]) (by simp [fl]) hx2 hv2
  exact RetK.one s2 v2 rfl rfl (Ext.refl _) ⟨p', c', hpc, hfs⟩

theorem gridRow {w0 : World} {σ : Sg} (sb so w h y : Nat) (xs : List Nat) (hwb : 4 ≤ w ∧ w ≤ 16) (hhb : 4 ≤ h ∧ h ≤ 16) (hy : y < h) (hl : xs.length = w * h) :
    FnV Try.prog w0 43 [(.agg #[(.int .i64 ↑w), (.int .i64 ↑h)]), (.slice (some ⟨sb, so, none⟩) xs.length xs.length), (.int .i64 ↑y)] σ (.slice (some ⟨sb, so + (w * y) * 1, none⟩) w (xs.length - w * y)) := by
  unfold FnV
  have hm1 := Nat.mul_le_mul_left w (show y + 1 ≤ h by omega)
  have hm2 : w * (y + 1) = w * y + w := Nat.mul_succ w y
  have hm3 := Nat.mul_le_mul (show w ≤ 16 by omega) (show h ≤ 16 by omega)
  refine Fn.of_W 18 Try.func43 rfl Try.ntmps43 rfl ?_
  refine W.seq ?_
  refine W.region ?_
  refine L.cons (o_box (v := (.agg #[(.int .i64 (w : Int)), (.int .i64 (h : Int))])) rfl rfl [(.int .i64 (w : Int)), (.int .i64 (h : Int))] rfl) ?_
  rintro _ _ ⟨b1, hf2, hw3, rfl, rfl⟩
  have hb6 : (sg σ b1 (27, [(.int .i64 (w : Int)), (.int .i64 (h : Int))])) b1 = some (27, [(.int .i64 (w : Int)), (.int .i64 (h : Int))]) := sg_eq _ _ _
  have hx5 : Ext σ (sg σ b1 (27, [(.int .i64 (w : Int)), (.int .i64 (h : Int))])) := (Ext.refl _).sg hf2
  have ehx5 := Ext.trans (Ext.refl _) hx5
  generalize hgs4 : sg σ b1 (27, [(.int .i64 (w : Int)), (.int .i64 (h : Int))]) = s4 at *
  clear hgs4
  refine L.v (o_assign (v := (.slice none 0 0)) rfl) ?_
  refine L.nil ?_
  refine W.seq ?_
  refine W.region ?_
  refine L.v (o_move (v := (.slice (some ⟨sb, so, none⟩) xs.length xs.length)) rfl) ?_
  refine L.v (o_fieldAddr (b := b1) (off := 0) (o := 0) (run_fieldAt (f := 0) (fld := { name := "Wide", type := 2, offset := 0, embedded := false, tag := "", pkgPath := "", byteOffset := 0 }) Try.underlying27 rfl Try.sizeOf2 (Nat.succ_ne_zero _)) rfl) ?_
  refine L.v (o_load (b := b1) (off := 0 + 0) (v := (.int .i64 (w : Int))) Try.isAgg2 rfl (Rd.of hb6 rfl) rfl) ?_
  refine L.v (o_move (v := (.int .i64 (y : Int))) rfl) ?_
  refine L.v (o_imul (a := (w : Int)) (b := (y : Int)) (c := ((w * y : Nat) : Int)) rfl rfl (by rw [← Int.natCast_mul, IntWalk.i64_in _ (by omega)])) ?_
  refine L.v (o_fieldAddr (b := b1) (off := 0) (o := 0) (run_fieldAt (f := 0) (fld := { name := "Wide", type := 2, offset := 0, embedded := false, tag := "", pkgPath := "", byteOffset := 0 }) Try.underlying27 rfl Try.sizeOf2 (Nat.succ_ne_zero _)) rfl) ?_
  refine L.v (o_load (b := b1) (off := 0 + 0) (v := (.int .i64 (w : Int))) Try.isAgg2 rfl (Rd.of hb6 rfl) rfl) ?_
  refine L.v (o_move (v := (.int .i64 (y : Int))) rfl) ?_
  refine L.v (o_iadd (a := (y : Int)) (b := 1) (c := ((y + 1 : Nat) : Int)) rfl rfl (by rw [IntWalk.i64_in _ (by omega)]; try omega)) ?_
  refine L.v (o_imul (a := (w : Int)) (b := ((y + 1 : Nat) : Int)) (c := ((w * (y + 1) : Nat) : Int)) rfl rfl (by rw [← Int.natCast_mul, IntWalk.i64_in _ (by omega)])) ?_
  refine L.v (o_slice2m (b := sb) (off := so) (n := xs.length) (c := xs.length) (w * y) (w * (y + 1)) w Try.underlying24 Try.sizeOf56 rfl rfl rfl (by omega) (by omega) (by omega) (by omega)) ?_
  refine L.v (o_assign (v := (.slice (some ⟨sb, so + (w * y) * 1, none⟩) w (xs.length - (w * y)))) rfl) ?_
  refine L.nil ?_
  refine W.ret ?_
  exact RetK.one σ (.slice (some ⟨sb, so + (w * y) * 1, none⟩) w (xs.length - (w * y))) rfl rfl ehx5 ⟨rfl, rfl⟩

theorem specRowL {w0 : World} {σ : Sg} (b e w h : Nat) (hb : σ b = some (e, [.int .i64 (w : Int), .int .i64 (h : Int)])) (y : Nat) (p : Option Addr) (xs : List Nat) (hs : Sl σ 1 p (xs.map fl)) (hwb : 4 ≤ w ∧ w ≤ 16) (hhb : 4 ≤ h ∧ h ≤ 16) (hy : y < h) (hl : xs.length = w * h) :
    Fn Try.prog w0 39 [(.pointer (some ⟨b, 0, none⟩)), (.slice p xs.length xs.length), (.int .i64 ↑y)] σ (RetFS w0 σ 1 ((sub xs (w * y) w).map fl) w id) := by
  refine Fn.of_W 24 Try.func39 rfl Try.ntmps39 rfl ?_
  refine W.seq ?_
  refine W.region ?_
  refine L.v (o_assign (v := (.slice none 0 0)) rfl) ?_
  refine L.nil ?_
  refine W.seq ?_
  have hm1 := Nat.mul_le_mul_left w (show y + 1 ≤ h by omega)
  have hm2 : w * (y + 1) = w * y + w := Nat.mul_succ w y
  have hm3 := Nat.mul_le_mul (show w ≤ 16 by omega) (show h ≤ 16 by omega)
  have hpos := Nat.mul_le_mul (show 4 ≤ w by omega) (show 4 ≤ h by omega)
  obtain ⟨sb, so, rfl, _⟩ := hs.elem 0 (by omega) 0
  refine W.drawSink 15 [true, true, true, true, true, true, true, true, true, true, true, true, true, true, true, false, false, true] (fun s => Ext σ s) (by kernel_rfl) (by kernel_rfl) ?_
  refine DL.v (fun _ hD => o_move (v := (.slice (some ⟨sb, so, none⟩) xs.length xs.length)) rfl) ?_
  refine DL.v (fun _ hD => o_move (v := (.pointer (some ⟨b, 0, none⟩))) rfl) ?_
  refine DL.v (fun _ hD => o_nilCheck (p := ⟨b, 0, none⟩) rfl) ?_
  refine DL.v (fun _ hD => o_fieldAddr (b := b) (off := 0) (o := 0) (run_fieldAt (f := 0) (fld := { name := "Wide", type := 2, offset := 0, embedded := false, tag := "", pkgPath := "", byteOffset := 0 }) Try.underlying27 rfl Try.sizeOf2 (Nat.succ_ne_zero _)) rfl) ?_
  refine DL.v (fun _ hD => o_load (b := b) (off := 0 + 0) (v := (.int .i64 (w : Int))) Try.isAgg2 rfl (Rd.of (hD _ _ hb) rfl) rfl) ?_
  refine DL.v (fun _ hD => o_move (v := (.int .i64 (y : Int))) rfl) ?_
  refine DL.v (fun _ hD => o_imul (a := (w : Int)) (b := (y : Int)) (c := ((w * y : Nat) : Int)) rfl rfl (by rw [← Int.natCast_mul, IntWalk.i64_in _ (by omega)])) ?_
  refine DL.v (fun _ hD => o_move (v := (.pointer (some ⟨b, 0, none⟩))) rfl) ?_
  refine DL.v (fun _ hD => o_nilCheck (p := ⟨b, 0, none⟩) rfl) ?_
  refine DL.v (fun _ hD => o_fieldAddr (b := b) (off := 0) (o := 0) (run_fieldAt (f := 0) (fld := { name := "Wide", type := 2, offset := 0, embedded := false, tag := "", pkgPath := "", byteOffset := 0 }) Try.underlying27 rfl Try.sizeOf2 (Nat.succ_ne_zero _)) rfl) ?_
  refine DL.v (fun _ hD => o_load (b := b) (off := 0 + 0) (v := (.int .i64 (w : Int))) Try.isAgg2 rfl (Rd.of (hD _ _ hb) rfl) rfl) ?_
  refine DL.v (fun _ hD => o_move (v := (.int .i64 (y : Int))) rfl) ?_
  refine DL.v (fun _ hD => o_iadd (a := (y : Int)) (b := 1) (c := ((y + 1 : Nat) : Int)) rfl rfl (by rw [IntWalk.i64_in _ (by omega)]; try omega)) ?_
  refine DL.v (fun _ hD => o_imul (a := (w : Int)) (b := ((y + 1 : Nat) : Int)) (c := ((w * (y + 1) : Nat) : Int)) rfl rfl (by rw [← Int.natCast_mul, IntWalk.i64_in _ (by omega)])) ?_
  refine DL.v (fun _ hD => o_slice2m (b := sb) (off := so) (n := xs.length) (c := xs.length) (w * y) (w * (y + 1)) w Try.underlying24 Try.sizeOf56 rfl rfl rfl (by omega) (by omega) (by omega) (by omega)) ?_
  refine DL.e (Ext.refl _) (o_buildSlice (info := Try.t56) (z := .float .f32 0) [] Try.underlying24 Try.type56 rfl rfl rfl rfl (by decide) rfl rfl (by simp [Value.oneCell'])) ?_
  rintro _ _ ⟨b1, hf2, hw3, rfl, rfl⟩
  have ho0 := Own.new (σ := σ) (e := 56) 1 hw3
  have hx0 : Ext σ (sg σ b1 (56, [])) := (Ext.refl _).sg hf2
  have hv0 := ownAt (n := 0) (c := 0) hf2
  refine DL.e hx0 (o_append (info := Try.t56) (z := .float .f32 0) (size := 1) (bytes := 4) (v := (.slice (some ⟨b1, 0, none⟩) 0 0)) (n := 0) (m := w) (c := xs.length - (w * y)) (b := sb) (off := so + (w * y) * 1) (xs := []) (news := (sub xs (w * y) w).map (Value.float .f32)) Try.underlying24 Try.type56 rfl rfl rfl rfl rfl ho0 rfl (by omega) (by rw [List.length_map, sub_len]; omega) (Rds.ext (Sl.sub hs (w * y) w (by omega)) hx0) (by simp [Value.oneCell']) (by unfold maxLen; omega) (by omega)) ?_
  rintro v2 s2 ⟨h3, h4⟩
  have hx2 := Grew.ext h4 hx0 hv0
  have hv2 := Grew.fresh h4 hx0 hv0
  refine DL.v (fun _ hD => o_assign (v := v2) rfl) ?_
  refine DL.nil hx2 ?_
  refine W.ret ?_
  obtain ⟨p', c', hpc, hfs⟩ := Fsl.of_own (rows := (sub xs (w * y) w).map fl) (n := w) (by rw [flat_fl]; have h := h3; rwa [Nat.zero_add, List.nil_append] at h) (by rw [List.length_map, sub_len]) (by simp [fl]) hx2 hv2
  exact RetK.one s2 v2 rfl rfl (Ext.refl _) ⟨p', c', hpc, hfs⟩

theorem specRow {w0 : World} {σ : Sg} (gx gy : Int) (p : Option Addr) (xs : List Nat) (hs : Sl σ 1 p (xs.map fl)) (y : Int) :
    Fn Try.prog w0 10 [(.agg #[(.int .i64 gx), (.int .i64 gy)]), (.slice p xs.length xs.length), (.int .i64 y)] σ (RetFS w0 σ 1 ((rowF gx gy y xs).map fl) (rowF gx gy y xs).length (fun v => .tuple #[v, .bool (rowB gx gy y xs)])) := by
  refine Fn.of_W 22 Try.func10 rfl Try.ntmps10 rfl ?_
  refine W.seq ?_
  refine W.region ?_
  refine L.cons (o_box (v := (.agg #[(.int .i64 gx), (.int .i64 gy)])) rfl rfl [(.int .i64 gx), (.int .i64 gy)] rfl) ?_
  rintro _ _ ⟨b1, hf2, hw3, rfl, rfl⟩
  have hb6 : (sg σ b1 (27, [(.int .i64 gx), (.int .i64 gy)])) b1 = some (27, [(.int .i64 gx), (.int .i64 gy)]) := sg_eq _ _ _
  have hx5 : Ext σ (sg σ b1 (27, [(.int .i64 gx), (.int .i64 gy)])) := (Ext.refl _).sg hf2
  have hs7 := Sl.ext hs hx5
  have ehx5 := Ext.trans (Ext.refl _) hx5
  generalize hgs4 : sg σ b1 (27, [(.int .i64 gx), (.int .i64 gy)]) = s4 at *
  clear hgs4
  refine L.v (o_assign (v := (.slice none 0 0)) rfl) ?_
  refine L.v (o_assign (v := (.bool false)) rfl) ?_
  refine L.nil ?_
  refine W.seq ?_
  refine W.seq ?_
  refine W.region ?_
  refine L.v (o_move (v := (.slice p xs.length xs.length)) rfl) ?_
  refine L.v (v := (.bool (decide (((4 ≤ (gx : Int) ∧ (gx : Int) ≤ 16) ∧ 4 ≤ (gy : Int) ∧ (gy : Int) ≤ 16) ∧ (xs.length : Int) = (gx : Int) * (gy : Int))))) (op_call [(.pointer (some ⟨b1, 0, none⟩)), (.slice p xs.length xs.length)] Try.call37 rfl (specField b1 _ gx gy hb6 p xs.length xs.length)) ?_
  refine L.v (o_not (b := decide (((4 ≤ (gx : Int) ∧ (gx : Int) ≤ 16) ∧ 4 ≤ (gy : Int) ∧ (gy : Int) ≤ 16) ∧ (xs.length : Int) = (gx : Int) * (gy : Int))) rfl rfl) ?_
  refine L.v (o_move (v := (.bool (!(decide (((4 ≤ (gx : Int) ∧ (gx : Int) ≤ 16) ∧ 4 ≤ (gy : Int) ∧ (gy : Int) ≤ 16) ∧ (xs.length : Int) = (gx : Int) * (gy : Int)))))) rfl) ?_
  rcases Bool.eq_false_or_eq_true (!(decide (((4 ≤ (gx : Int) ∧ (gx : Int) ≤ 16) ∧ 4 ≤ (gy : Int) ∧ (gy : Int) ≤ 16) ∧ (xs.length : Int) = (gx : Int) * (gy : Int)))) with q8 | q8
  ·
    have a9 : ¬ (((4 ≤ (gx : Int) ∧ (gx : Int) ≤ 16) ∧ 4 ≤ (gy : Int) ∧ (gy : Int) ≤ 16) ∧ (xs.length : Int) = (gx : Int) * (gy : Int)) := of_decide_eq_false (bn_t q8)
    refine L.gF (j := 3) (d₁ := 11) (b := !(decide (((4 ≤ (gx : Int) ∧ (gx : Int) ≤ 16) ∧ 4 ≤ (gy : Int) ∧ (gy : Int) ≤ 16) ∧ (xs.length : Int) = (gx : Int) * (gy : Int)))) rfl rfl rfl q8 ?_
    refine L.gF (j := 3) (d₁ := 11) (b := !(decide (((4 ≤ (gx : Int) ∧ (gx : Int) ≤ 16) ∧ 4 ≤ (gy : Int) ∧ (gy : Int) ≤ 16) ∧ (xs.length : Int) = (gx : Int) * (gy : Int)))) rfl rfl rfl q8 ?_
    refine L.gF (j := 3) (d₁ := 11) (b := !(decide (((4 ≤ (gx : Int) ∧ (gx : Int) ≤ 16) ∧ 4 ≤ (gy : Int) ∧ (gy : Int) ≤ 16) ∧ (xs.length : Int) = (gx : Int) * (gy : Int)))) rfl rfl rfl q8 ?_
    refine L.gF (j := 3) (d₁ := 11) (b := !(decide (((4 ≤ (gx : Int) ∧ (gx : Int) ≤ 16) ∧ 4 ≤ (gy : Int) ∧ (gy : Int) ≤ 16) ∧ (xs.length : Int) = (gx : Int) * (gy : Int)))) rfl rfl rfl q8 ?_
    refine L.gF (j := 3) (d₁ := 11) (b := !(decide (((4 ≤ (gx : Int) ∧ (gx : Int) ≤ 16) ∧ 4 ≤ (gy : Int) ∧ (gy : Int) ≤ 16) ∧ (xs.length : Int) = (gx : Int) * (gy : Int)))) rfl rfl rfl q8 ?_
    refine L.gF (j := 3) (d₁ := 11) (b := !(decide (((4 ≤ (gx : Int) ∧ (gx : Int) ≤ 16) ∧ 4 ≤ (gy : Int) ∧ (gy : Int) ≤ 16) ∧ (xs.length : Int) = (gx : Int) * (gy : Int)))) rfl rfl rfl q8 ?_
    refine L.v (o_pickT (b := !(decide (((4 ≤ (gx : Int) ∧ (gx : Int) ≤ 16) ∧ 4 ≤ (gy : Int) ∧ (gy : Int) ≤ 16) ∧ (xs.length : Int) = (gx : Int) * (gy : Int)))) (v := (.bool true)) rfl q8 rfl) ?_
    refine L.nil ?_
    refine W.condT (b := true) rfl rfl ?_
    refine W.seq ?_
    refine W.region ?_
    refine L.v (o_assign (v := (.slice none 0 0)) rfl) ?_
    refine L.v (o_assign (v := (.bool false)) rfl) ?_
    refine L.nil ?_
    refine W.ret ?_
    exact RetK.two σ (.slice none 0 0) (.bool false) rfl rfl rfl rfl rfl ehx5 ⟨none, 0, by rw [rowF_no (by omega), rowB_no (by omega)]; rfl, by rw [rowF_no (by omega)]; exact Fsl.nil 1⟩
  ·
    have a10 : ((4 ≤ (gx : Int) ∧ (gx : Int) ≤ 16) ∧ 4 ≤ (gy : Int) ∧ (gy : Int) ≤ 16) ∧ (xs.length : Int) = (gx : Int) * (gy : Int) := of_decide_eq_true (bn_f q8)
    refine L.gv (j := 3) (d₁ := 11) (b := !(decide (((4 ≤ (gx : Int) ∧ (gx : Int) ≤ 16) ∧ 4 ≤ (gy : Int) ∧ (gy : Int) ≤ 16) ∧ (xs.length : Int) = (gx : Int) * (gy : Int)))) rfl rfl rfl q8 (o_move (v := (.int .i64 y)) rfl) ?_
    refine L.gv (j := 3) (d₁ := 11) (b := !(decide (((4 ≤ (gx : Int) ∧ (gx : Int) ≤ 16) ∧ 4 ≤ (gy : Int) ∧ (gy : Int) ≤ 16) ∧ (xs.length : Int) = (gx : Int) * (gy : Int)))) rfl rfl rfl q8 (o_fieldAddr (b := b1) (off := 0) (o := 1) (run_fieldAt (f := 1) (fld := { name := "High", type := 2, offset := 1, embedded := false, tag := "", pkgPath := "", byteOffset := 8 }) Try.underlying27 rfl Try.sizeOf2 (Nat.succ_ne_zero _)) rfl) ?_
    refine L.gv (j := 3) (d₁ := 11) (b := !(decide (((4 ≤ (gx : Int) ∧ (gx : Int) ≤ 16) ∧ 4 ≤ (gy : Int) ∧ (gy : Int) ≤ 16) ∧ (xs.length : Int) = (gx : Int) * (gy : Int)))) rfl rfl rfl q8 (o_load (b := b1) (off := 0 + 1) (v := (.int .i64 gy)) Try.isAgg2 rfl (Rd.of hb6 rfl) rfl) ?_
    refine L.gv (j := 3) (d₁ := 11) (b := !(decide (((4 ≤ (gx : Int) ∧ (gx : Int) ≤ 16) ∧ 4 ≤ (gy : Int) ∧ (gy : Int) ≤ 16) ∧ (xs.length : Int) = (gx : Int) * (gy : Int)))) rfl rfl rfl q8 (o_isub (a := gy) (b := 1) (c := gy - 1) rfl rfl (by rw [IntWalk.i64_in _ (by omega)]; try omega)) ?_
    refine L.gv (j := 3) (d₁ := 11) (b := !(decide (((4 ≤ (gx : Int) ∧ (gx : Int) ≤ 16) ∧ 4 ≤ (gy : Int) ∧ (gy : Int) ≤ 16) ∧ (xs.length : Int) = (gx : Int) * (gy : Int)))) rfl rfl rfl q8 (v := (.bool (decide ((0 : Int) ≤ y ∧ (y : Int) ≤ (gy - 1))))) (op_call [(.int .i64 y), (.int .i64 0), (.int .i64 (gy - 1))] Try.call38 rfl (withinS y 0 (gy - 1))) ?_
    refine L.gv (j := 3) (d₁ := 11) (b := !(decide (((4 ≤ (gx : Int) ∧ (gx : Int) ≤ 16) ∧ 4 ≤ (gy : Int) ∧ (gy : Int) ≤ 16) ∧ (xs.length : Int) = (gx : Int) * (gy : Int)))) rfl rfl rfl q8 (o_not (b := decide ((0 : Int) ≤ y ∧ (y : Int) ≤ (gy - 1))) rfl rfl) ?_
    refine L.v (o_pickF (b := !(decide (((4 ≤ (gx : Int) ∧ (gx : Int) ≤ 16) ∧ 4 ≤ (gy : Int) ∧ (gy : Int) ≤ 16) ∧ (xs.length : Int) = (gx : Int) * (gy : Int)))) (v := (.bool (!(decide ((0 : Int) ≤ y ∧ (y : Int) ≤ (gy - 1)))))) rfl q8 rfl) ?_
    refine L.nil ?_
    refine W.cond (b := !(decide ((0 : Int) ≤ y ∧ (y : Int) ≤ (gy - 1)))) rfl (fun q11 => ?_) (fun q11 => ?_)
    ·
      have a12 : ¬ ((0 : Int) ≤ y ∧ (y : Int) ≤ (gy - 1)) := of_decide_eq_false (bn_t q11)
      refine W.seq ?_
      refine W.region ?_
      refine L.v (o_assign (v := (.slice none 0 0)) rfl) ?_
      refine L.v (o_assign (v := (.bool false)) rfl) ?_
      refine L.nil ?_
      refine W.ret ?_
      exact RetK.two σ (.slice none 0 0) (.bool false) rfl rfl rfl rfl rfl ehx5 ⟨none, 0, by rw [rowF_no (by omega), rowB_no (by omega)]; rfl, by rw [rowF_no (by omega)]; exact Fsl.nil 1⟩
    ·
      have a13 : (0 : Int) ≤ y ∧ (y : Int) ≤ (gy - 1) := of_decide_eq_true (bn_f q11)
      refine W.skip ?_
      refine W.seq ?_
      obtain ⟨w, rfl⟩ : ∃ w : Nat, gx = (w : Int) := ⟨gx.toNat, by omega⟩
      obtain ⟨h, rfl⟩ : ∃ h : Nat, gy = (h : Int) := ⟨gy.toNat, by omega⟩
      obtain ⟨y', rfl⟩ : ∃ y' : Nat, y = (y' : Int) := ⟨y.toNat, by omega⟩
      have hpos := Nat.mul_le_mul (show 4 ≤ w by omega) (show 4 ≤ h by omega)
      obtain ⟨sb, so, rfl, _⟩ := hs7.elem 0 (by omega) 0
      refine W.region ?_
      refine L.v (o_move (v := (.slice (some ⟨sb, so, none⟩) xs.length xs.length)) rfl) ?_
      refine L.v (o_move (v := (.int .i64 (y' : Int))) rfl) ?_
      refine L.cons (op_call [(.pointer (some ⟨b1, 0, none⟩)), (.slice (some ⟨sb, so, none⟩) xs.length xs.length), (.int .i64 (y' : Int))] Try.call39 rfl (specRowL b1 _ w h hb6 y' (some ⟨sb, so, none⟩) xs hs7 (by omega) (by omega) (by omega) (by omega))) ?_
      rintro _ s16 ⟨p14, c15, rfl, fs17⟩
      have ne18 := Fsl.ne fs17 hb6
      have ap19 : Apart (((sub xs (w * y') w)).length) (xs.length) p14 (some ⟨sb, so, none⟩) := by simpa using Fsl.apart fs17 hs7 (fl_ne _)
      have hb20 := fs17.ext _ _ hb6
      have hs21 := Sl.ext hs7 fs17.ext
      have ex22 := Ext.trans ehx5 fs17.ext
      have mu23 := Fsl.mut fs17 (((sub xs (w * y') w)).length) (by simp)
      refine L.v (o_assign (v := (.slice p14 w c15)) rfl) ?_
      refine L.v (o_assign (v := (.bool true)) rfl) ?_
      refine L.nil ?_
      refine W.ret ?_
      exact RetK.two _ (.slice p14 w c15) (.bool true) rfl rfl rfl rfl rfl (Ext.refl _) ⟨_, _, by rw [rowF_yes (by omega), rowB_yes (by omega), sub_len], by rw [rowF_yes (by omega)]; exact Fsl.weaken fs17 ehx5⟩

theorem implRow {w0 : World} {σ : Sg} (gx gy : Int) (p : Option Addr) (xs : List Nat) (hs : Sl σ 1 p (xs.map fl)) (y : Int) :
    Fn Try.prog w0 13 [(.agg #[(.int .i64 gx), (.int .i64 gy)]), (.slice p xs.length xs.length), (.int .i64 y)] σ (RetFS w0 σ 1 ((rowF gx gy y xs).map fl) (rowF gx gy y xs).length (fun v => .tuple #[v, .bool (rowB gx gy y xs)])) := by
  refine Fn.of_W 25 Try.func13 rfl Try.ntmps13 rfl ?_
  refine W.seq ?_
  refine W.region ?_
  refine L.cons (o_box (v := (.agg #[(.int .i64 gx), (.int .i64 gy)])) rfl rfl [(.int .i64 gx), (.int .i64 gy)] rfl) ?_
  rintro _ _ ⟨b1, hf2, hw3, rfl, rfl⟩
  have hb6 : (sg σ b1 (27, [(.int .i64 gx), (.int .i64 gy)])) b1 = some (27, [(.int .i64 gx), (.int .i64 gy)]) := sg_eq _ _ _
  have hx5 : Ext σ (sg σ b1 (27, [(.int .i64 gx), (.int .i64 gy)])) := (Ext.refl _).sg hf2
  have hs7 := Sl.ext hs hx5
  have ehx5 := Ext.trans (Ext.refl _) hx5
  generalize hgs4 : sg σ b1 (27, [(.int .i64 gx), (.int .i64 gy)]) = s4 at *
  clear hgs4
  refine L.v (o_assign (v := (.slice none 0 0)) rfl) ?_
  refine L.v (o_assign (v := (.bool false)) rfl) ?_
  refine L.nil ?_
  refine W.seq ?_
  refine W.seq ?_
  refine W.region ?_
  refine L.v (o_loads (b := b1) (off := 0) (vs := [(.int .i64 gx), (.int .i64 gy)]) Try.isAgg27 Try.sizeOf27 rfl rfl (Rds.of hb6 (by intro j v hj; simpa using hj))) ?_
  refine L.v (o_move (v := (.slice p xs.length xs.length)) rfl) ?_
  refine L.v (v := (.bool (decide (((4 ≤ (gx : Int) ∧ (gx : Int) ≤ 16) ∧ 4 ≤ (gy : Int) ∧ (gy : Int) ≤ 16) ∧ (xs.length : Int) = (gx : Int) * (gy : Int))))) (op_call [(.agg #[(.int .i64 gx), (.int .i64 gy)]), (.slice p xs.length xs.length)] Try.call40 rfl (implField gx gy p xs.length xs.length)) ?_
  refine L.v (o_not (b := decide (((4 ≤ (gx : Int) ∧ (gx : Int) ≤ 16) ∧ 4 ≤ (gy : Int) ∧ (gy : Int) ≤ 16) ∧ (xs.length : Int) = (gx : Int) * (gy : Int))) rfl rfl) ?_
  refine L.v (o_move (v := (.bool (!(decide (((4 ≤ (gx : Int) ∧ (gx : Int) ≤ 16) ∧ 4 ≤ (gy : Int) ∧ (gy : Int) ≤ 16) ∧ (xs.length : Int) = (gx : Int) * (gy : Int)))))) rfl) ?_
  rcases Bool.eq_false_or_eq_true (!(decide (((4 ≤ (gx : Int) ∧ (gx : Int) ≤ 16) ∧ 4 ≤ (gy : Int) ∧ (gy : Int) ≤ 16) ∧ (xs.length : Int) = (gx : Int) * (gy : Int)))) with q8 | q8
  ·
    have a9 : ¬ (((4 ≤ (gx : Int) ∧ (gx : Int) ≤ 16) ∧ 4 ≤ (gy : Int) ∧ (gy : Int) ≤ 16) ∧ (xs.length : Int) = (gx : Int) * (gy : Int)) := of_decide_eq_false (bn_t q8)
    refine L.gF (j := 4) (d₁ := 12) (b := !(decide (((4 ≤ (gx : Int) ∧ (gx : Int) ≤ 16) ∧ 4 ≤ (gy : Int) ∧ (gy : Int) ≤ 16) ∧ (xs.length : Int) = (gx : Int) * (gy : Int)))) rfl rfl rfl q8 ?_
    refine L.gF (j := 4) (d₁ := 12) (b := !(decide (((4 ≤ (gx : Int) ∧ (gx : Int) ≤ 16) ∧ 4 ≤ (gy : Int) ∧ (gy : Int) ≤ 16) ∧ (xs.length : Int) = (gx : Int) * (gy : Int)))) rfl rfl rfl q8 ?_
    refine L.gF (j := 4) (d₁ := 12) (b := !(decide (((4 ≤ (gx : Int) ∧ (gx : Int) ≤ 16) ∧ 4 ≤ (gy : Int) ∧ (gy : Int) ≤ 16) ∧ (xs.length : Int) = (gx : Int) * (gy : Int)))) rfl rfl rfl q8 ?_
    refine L.gF (j := 4) (d₁ := 12) (b := !(decide (((4 ≤ (gx : Int) ∧ (gx : Int) ≤ 16) ∧ 4 ≤ (gy : Int) ∧ (gy : Int) ≤ 16) ∧ (xs.length : Int) = (gx : Int) * (gy : Int)))) rfl rfl rfl q8 ?_
    refine L.gF (j := 4) (d₁ := 12) (b := !(decide (((4 ≤ (gx : Int) ∧ (gx : Int) ≤ 16) ∧ 4 ≤ (gy : Int) ∧ (gy : Int) ≤ 16) ∧ (xs.length : Int) = (gx : Int) * (gy : Int)))) rfl rfl rfl q8 ?_
    refine L.gF (j := 4) (d₁ := 12) (b := !(decide (((4 ≤ (gx : Int) ∧ (gx : Int) ≤ 16) ∧ 4 ≤ (gy : Int) ∧ (gy : Int) ≤ 16) ∧ (xs.length : Int) = (gx : Int) * (gy : Int)))) rfl rfl rfl q8 ?_
    refine L.v (o_pickT (b := !(decide (((4 ≤ (gx : Int) ∧ (gx : Int) ≤ 16) ∧ 4 ≤ (gy : Int) ∧ (gy : Int) ≤ 16) ∧ (xs.length : Int) = (gx : Int) * (gy : Int)))) (v := (.bool true)) rfl q8 rfl) ?_
    refine L.nil ?_
    refine W.condT (b := true) rfl rfl ?_
    refine W.seq ?_
    refine W.region ?_
    refine L.v (o_assign (v := (.slice none 0 0)) rfl) ?_
    refine L.v (o_assign (v := (.bool false)) rfl) ?_
    refine L.nil ?_
    refine W.ret ?_
    exact RetK.two σ (.slice none 0 0) (.bool false) rfl rfl rfl rfl rfl ehx5 ⟨none, 0, by rw [rowF_no (by omega), rowB_no (by omega)]; rfl, by rw [rowF_no (by omega)]; exact Fsl.nil 1⟩
  ·
    have a10 : ((4 ≤ (gx : Int) ∧ (gx : Int) ≤ 16) ∧ 4 ≤ (gy : Int) ∧ (gy : Int) ≤ 16) ∧ (xs.length : Int) = (gx : Int) * (gy : Int) := of_decide_eq_true (bn_f q8)
    refine L.gv (j := 4) (d₁ := 12) (b := !(decide (((4 ≤ (gx : Int) ∧ (gx : Int) ≤ 16) ∧ 4 ≤ (gy : Int) ∧ (gy : Int) ≤ 16) ∧ (xs.length : Int) = (gx : Int) * (gy : Int)))) rfl rfl rfl q8 (o_move (v := (.int .i64 y)) rfl) ?_
    refine L.gv (j := 4) (d₁ := 12) (b := !(decide (((4 ≤ (gx : Int) ∧ (gx : Int) ≤ 16) ∧ 4 ≤ (gy : Int) ∧ (gy : Int) ≤ 16) ∧ (xs.length : Int) = (gx : Int) * (gy : Int)))) rfl rfl rfl q8 (o_fieldAddr (b := b1) (off := 0) (o := 1) (run_fieldAt (f := 1) (fld := { name := "High", type := 2, offset := 1, embedded := false, tag := "", pkgPath := "", byteOffset := 8 }) Try.underlying27 rfl Try.sizeOf2 (Nat.succ_ne_zero _)) rfl) ?_
    refine L.gv (j := 4) (d₁ := 12) (b := !(decide (((4 ≤ (gx : Int) ∧ (gx : Int) ≤ 16) ∧ 4 ≤ (gy : Int) ∧ (gy : Int) ≤ 16) ∧ (xs.length : Int) = (gx : Int) * (gy : Int)))) rfl rfl rfl q8 (o_load (b := b1) (off := 0 + 1) (v := (.int .i64 gy)) Try.isAgg2 rfl (Rd.of hb6 rfl) rfl) ?_
    refine L.gv (j := 4) (d₁ := 12) (b := !(decide (((4 ≤ (gx : Int) ∧ (gx : Int) ≤ 16) ∧ 4 ≤ (gy : Int) ∧ (gy : Int) ≤ 16) ∧ (xs.length : Int) = (gx : Int) * (gy : Int)))) rfl rfl rfl q8 (o_isub (a := gy) (b := 1) (c := gy - 1) rfl rfl (by rw [IntWalk.i64_in _ (by omega)]; try omega)) ?_
    refine L.gv (j := 4) (d₁ := 12) (b := !(decide (((4 ≤ (gx : Int) ∧ (gx : Int) ≤ 16) ∧ 4 ≤ (gy : Int) ∧ (gy : Int) ≤ 16) ∧ (xs.length : Int) = (gx : Int) * (gy : Int)))) rfl rfl rfl q8 (v := (.bool (decide ((0 : Int) ≤ y ∧ (y : Int) ≤ (gy - 1))))) (op_call [(.int .i64 y), (.int .i64 0), (.int .i64 (gy - 1))] Try.call41 rfl (withinI y 0 (gy - 1))) ?_
    refine L.gv (j := 4) (d₁ := 12) (b := !(decide (((4 ≤ (gx : Int) ∧ (gx : Int) ≤ 16) ∧ 4 ≤ (gy : Int) ∧ (gy : Int) ≤ 16) ∧ (xs.length : Int) = (gx : Int) * (gy : Int)))) rfl rfl rfl q8 (o_not (b := decide ((0 : Int) ≤ y ∧ (y : Int) ≤ (gy - 1))) rfl rfl) ?_
    refine L.v (o_pickF (b := !(decide (((4 ≤ (gx : Int) ∧ (gx : Int) ≤ 16) ∧ 4 ≤ (gy : Int) ∧ (gy : Int) ≤ 16) ∧ (xs.length : Int) = (gx : Int) * (gy : Int)))) (v := (.bool (!(decide ((0 : Int) ≤ y ∧ (y : Int) ≤ (gy - 1)))))) rfl q8 rfl) ?_
    refine L.nil ?_
    refine W.cond (b := !(decide ((0 : Int) ≤ y ∧ (y : Int) ≤ (gy - 1)))) rfl (fun q11 => ?_) (fun q11 => ?_)
    ·
      have a12 : ¬ ((0 : Int) ≤ y ∧ (y : Int) ≤ (gy - 1)) := of_decide_eq_false (bn_t q11)
      refine W.seq ?_
      refine W.region ?_
      refine L.v (o_assign (v := (.slice none 0 0)) rfl) ?_
      refine L.v (o_assign (v := (.bool false)) rfl) ?_
      refine L.nil ?_
      refine W.ret ?_
      exact RetK.two σ (.slice none 0 0) (.bool false) rfl rfl rfl rfl rfl ehx5 ⟨none, 0, by rw [rowF_no (by omega), rowB_no (by omega)]; rfl, by rw [rowF_no (by omega)]; exact Fsl.nil 1⟩
    ·
      have a13 : (0 : Int) ≤ y ∧ (y : Int) ≤ (gy - 1) := of_decide_eq_true (bn_f q11)
      refine W.skip ?_
      refine W.seq ?_
      obtain ⟨w, rfl⟩ : ∃ w : Nat, gx = (w : Int) := ⟨gx.toNat, by omega⟩
      obtain ⟨h, rfl⟩ : ∃ h : Nat, gy = (h : Int) := ⟨gy.toNat, by omega⟩
      obtain ⟨y', rfl⟩ : ∃ y' : Nat, y = (y' : Int) := ⟨y.toNat, by omega⟩
      have hpos := Nat.mul_le_mul (show 4 ≤ w by omega) (show 4 ≤ h by omega)
      obtain ⟨sb, so, rfl, _⟩ := hs7.elem 0 (by omega) 0
      refine W.region ?_
      refine L.v (o_loads (b := b1) (off := 0) (vs := [(.int .i64 (w : Int)), (.int .i64 (h : Int))]) Try.isAgg27 Try.sizeOf27 rfl rfl (Rds.of hb6 (by intro j v hj; simpa using hj))) ?_
      refine L.v (o_move (v := (.slice (some ⟨sb, so, none⟩) xs.length xs.length)) rfl) ?_
      refine L.v (o_move (v := (.int .i64 (y' : Int))) rfl) ?_
      refine L.v (v := (.slice (some ⟨sb, so + (w * y') * 1, none⟩) w (xs.length - w * y'))) (op_call [(.agg #[(.int .i64 (w : Int)), (.int .i64 (h : Int))]), (.slice (some ⟨sb, so, none⟩) xs.length xs.length), (.int .i64 (y' : Int))] Try.call43 rfl (gridRow sb so w h y' xs (by omega) (by omega) (by omega) (by omega))) ?_
      refine L.cons (op_call [(.slice (some ⟨sb, so + (w * y') * 1, none⟩) w (xs.length - w * y'))] Try.call42 rfl (clone32 sb (so + (w * y') * 1) w (xs.length - w * y') (sub xs (w * y') w) (sub_len _ _ _) (by omega) (by omega) (Sl.sub hs7 (w * y') w (by have := Nat.mul_le_mul_left w (show y' + 1 ≤ h by omega); have e := Nat.mul_add w y' 1; omega)))) ?_
      rintro _ s16 ⟨p14, c15, rfl, fs17⟩
      have ne18 := Fsl.ne fs17 hb6
      have ap19 : Apart (((sub xs (w * y') w)).length) (xs.length) p14 (some ⟨sb, so, none⟩) := by simpa using Fsl.apart fs17 hs7 (fl_ne _)
      have hb20 := fs17.ext _ _ hb6
      have hs21 := Sl.ext hs7 fs17.ext
      have ex22 := Ext.trans ehx5 fs17.ext
      have mu23 := Fsl.mut fs17 (((sub xs (w * y') w)).length) (by simp)
      refine L.v (o_assign (v := (.slice p14 w c15)) rfl) ?_
      refine L.v (o_assign (v := (.bool true)) rfl) ?_
      refine L.nil ?_
      refine W.ret ?_
      exact RetK.two _ (.slice p14 w c15) (.bool true) rfl rfl rfl rfl rfl (Ext.refl _) ⟨_, _, by rw [rowF_yes (by omega), rowB_yes (by omega), sub_len], by rw [rowF_yes (by omega)]; exact Fsl.weaken fs17 ehx5⟩

theorem lawRow {w0 : World} {σ : Sg} (gx gy : Int) (p : Option Addr) (c : Nat) (xs : List Nat) (hs : Sl σ 1 p (xs.map fl)) (y : Int) (hy : -9223372036854775808 ≤ y ∧ y ≤ 9223372036854775807) :
    Fn Try.prog w0 3 [(.agg #[(.int .i64 gx), (.int .i64 gy)]), (.slice p xs.length c), (.int .i64 y)] σ (fun u _ => u = .bool true) := by
  refine Fn.of_W 106 Try.func3 rfl Try.ntmps3 rfl ?_
  refine W.seq ?_
  refine W.region ?_
  refine L.cons (o_box (v := (.agg #[(.int .i64 gx), (.int .i64 gy)])) rfl rfl [(.int .i64 gx), (.int .i64 gy)] rfl) ?_
  rintro _ _ ⟨b1, hf2, hw3, rfl, rfl⟩
  have hb6 : (sg σ b1 (23, [(.int .i64 gx), (.int .i64 gy)])) b1 = some (23, [(.int .i64 gx), (.int .i64 gy)]) := sg_eq _ _ _
  have hx5 : Ext σ (sg σ b1 (23, [(.int .i64 gx), (.int .i64 gy)])) := (Ext.refl _).sg hf2
  have hs7 := Sl.ext hs hx5
  have ehx5 := Ext.trans (Ext.refl _) hx5
  generalize hgs4 : sg σ b1 (23, [(.int .i64 gx), (.int .i64 gy)]) = s4 at *
  clear hgs4
  refine L.v (o_assign (v := (.bool false)) rfl) ?_
  refine L.nil ?_
  refine W.seq ?_
  refine W.seq ?_
  refine W.region ?_
  refine L.v (o_move (v := (.slice p xs.length c)) rfl) ?_
  refine L.v (o_len (p := p) (n := xs.length) (c := c) Try.underlying24 rfl) ?_
  refine L.v (o_igtr (a := (xs.length : Int)) (b := 1048576) rfl rfl rfl) ?_
  refine L.nil ?_
  refine W.cond (b := decide ((1048576 : Int) < (xs.length : Int))) rfl (fun q8 => ?_) (fun q8 => ?_)
  ·
    have a9 : (1048576 : Int) < (xs.length : Int) := of_decide_eq_true q8
    refine W.seq ?_
    refine W.region ?_
    refine L.v (o_assign (v := (.bool true)) rfl) ?_
    refine L.nil ?_
    refine W.ret ?_
    exact RetK.one _ (.bool true) rfl rfl (Ext.refl _) rfl
  ·
    have a10 : ¬ ((1048576 : Int) < (xs.length : Int)) := of_decide_eq_false q8
    refine W.skip ?_
    refine W.seq ?_
    refine W.region ?_
    refine L.v (o_loads (b := b1) (off := 0) (vs := [(.int .i64 gx), (.int .i64 gy)]) Try.isAgg23 Try.sizeOf23 rfl rfl (Rds.of hb6 (by intro j v hj; simpa using hj))) ?_
    refine L.v (v := (.agg #[(.int .i64 gx), (.int .i64 gy)])) (op_call [(.agg #[(.int .i64 gx), (.int .i64 gy)])] Try.call11 rfl (toGrid_c gx gy)) ?_
    refine L.v (o_move (v := (.slice p xs.length c)) rfl) ?_
    refine L.cons (op_call [(.slice p xs.length c)] Try.call12 rfl (toF32S p c xs hs7 (by omega))) ?_
    rintro _ s13 ⟨p11, rfl, fs14⟩
    have ap15 : Apart (xs.length) (xs.length) p11 p := by simpa using Fsl.apart fs14 hs7 (fl_ne _)
    have ne16 := Fsl.ne fs14 hb6
    have hs17 := Sl.ext hs7 fs14.ext
    have hb18 := fs14.ext _ _ hb6
    have ex19 := Ext.trans ehx5 fs14.ext
    have mu20 := Fsl.mut fs14 (xs.length) (by simp)
    refine L.v (o_move (v := (.int .i64 y)) rfl) ?_
    refine L.cons (op_call [(.agg #[(.int .i64 gx), (.int .i64 gy)]), (.slice p11 xs.length xs.length), (.int .i64 y)] Try.call10 rfl (specRow gx gy p11 xs (Fsl.reads fs14) y)) ?_
    rintro _ s23 ⟨p21, c22, rfl, fs24⟩
    have ap25 : Apart ((rowF gx gy y xs).length) (xs.length) p21 p := by simpa using Fsl.apart fs24 hs17 (fl_ne _)
    have ne26 := Fsl.ne fs24 hb18
    have ap27 : Apart ((rowF gx gy y xs).length) (xs.length) p21 p11 := by simpa using Fsl.apart fs24 (Fsl.reads fs14) (fl_ne _)
    have hs28 := Sl.ext hs17 fs24.ext
    have hb29 := fs24.ext _ _ hb18
    have hs30 := Sl.ext (Fsl.reads fs14) fs24.ext
    have mu31 := Mut.ext mu20 fs24.ext
    have ex32 := Ext.trans ex19 fs24.ext
    have mu33 := Fsl.mut fs24 ((rowF gx gy y xs).length) (by simp)
    refine L.v (o_move (v := (.tuple #[(.slice p21 ((rowF gx gy y xs).length) c22), (.bool (rowB gx gy y xs))])) rfl) ?_
    refine L.v (o_extract (vs := #[(.slice p21 ((rowF gx gy y xs).length) c22), (.bool (rowB gx gy y xs))]) (v := (.slice p21 ((rowF gx gy y xs).length) c22)) rfl rfl rfl) ?_
    refine L.v (o_extract (vs := #[(.slice p21 ((rowF gx gy y xs).length) c22), (.bool (rowB gx gy y xs))]) (v := (.bool (rowB gx gy y xs))) rfl rfl rfl) ?_
    refine L.v (o_assign (v := (.slice p21 ((rowF gx gy y xs).length) c22)) rfl) ?_
    refine L.v (o_assign (v := (.bool (rowB gx gy y xs))) rfl) ?_
    refine L.nil ?_
    refine W.seq ?_
    refine W.region ?_
    refine L.v (o_move (v := (.slice p xs.length c)) rfl) ?_
    refine L.cons (op_call [(.slice p xs.length c)] Try.call12 rfl (toF32S p c xs hs28 (by omega))) ?_
    rintro _ s36 ⟨p34, rfl, fs37⟩
    have ap38 : Apart (xs.length) (xs.length) p34 p := by simpa using Fsl.apart fs37 hs28 (fl_ne _)
    have ne39 := Fsl.ne fs37 hb29
    have ap40 : Apart (xs.length) (xs.length) p34 p11 := by simpa using Fsl.apart fs37 hs30 (fl_ne _)
    have ap41 : Apart (xs.length) ((rowF gx gy y xs).length) p34 p21 := by simpa using Fsl.apart fs37 (Fsl.reads fs24) (fl_ne _)
    have hs42 := Sl.ext hs28 fs37.ext
    have hb43 := fs37.ext _ _ hb29
    have hs44 := Sl.ext hs30 fs37.ext
    have mu45 := Mut.ext mu31 fs37.ext
    have hs46 := Sl.ext (Fsl.reads fs24) fs37.ext
    have mu47 := Mut.ext mu33 fs37.ext
    have ex48 := Ext.trans ex32 fs37.ext
    have mu49 := Fsl.mut fs37 (xs.length) (by simp)
    refine L.v (o_assign (v := (.slice p34 xs.length xs.length)) rfl) ?_
    refine L.nil ?_
    refine W.seq ?_
    refine W.region ?_
    refine L.v (o_loads (b := b1) (off := 0) (vs := [(.int .i64 gx), (.int .i64 gy)]) Try.isAgg23 Try.sizeOf23 rfl rfl (Rds.of hb43 (by intro j v hj; simpa using hj))) ?_
    refine L.v (v := (.agg #[(.int .i64 gx), (.int .i64 gy)])) (op_call [(.agg #[(.int .i64 gx), (.int .i64 gy)])] Try.call11 rfl (toGrid_c gx gy)) ?_
    refine L.v (o_move (v := (.slice p34 xs.length xs.length)) rfl) ?_
    refine L.v (o_move (v := (.int .i64 y)) rfl) ?_
    refine L.cons (op_call [(.agg #[(.int .i64 gx), (.int .i64 gy)]), (.slice p34 xs.length xs.length), (.int .i64 y)] Try.call13 rfl (implRow gx gy p34 xs (Fsl.reads fs37) y)) ?_
    rintro _ s52 ⟨p50, c51, rfl, fs53⟩
    have ap54 : Apart ((rowF gx gy y xs).length) (xs.length) p50 p := by simpa using Fsl.apart fs53 hs42 (fl_ne _)
    have ne55 := Fsl.ne fs53 hb43
    have ap56 : Apart ((rowF gx gy y xs).length) (xs.length) p50 p11 := by simpa using Fsl.apart fs53 hs44 (fl_ne _)
    have ap57 : Apart ((rowF gx gy y xs).length) ((rowF gx gy y xs).length) p50 p21 := by simpa using Fsl.apart fs53 hs46 (fl_ne _)
    have ap58 : Apart ((rowF gx gy y xs).length) (xs.length) p50 p34 := by simpa using Fsl.apart fs53 (Fsl.reads fs37) (fl_ne _)
    have hs59 := Sl.ext hs42 fs53.ext
    have hb60 := fs53.ext _ _ hb43
    have hs61 := Sl.ext hs44 fs53.ext
    have mu62 := Mut.ext mu45 fs53.ext
    have hs63 := Sl.ext hs46 fs53.ext
    have mu64 := Mut.ext mu47 fs53.ext
    have hs65 := Sl.ext (Fsl.reads fs37) fs53.ext
    have mu66 := Mut.ext mu49 fs53.ext
    have ex67 := Ext.trans ex48 fs53.ext
    have mu68 := Fsl.mut fs53 ((rowF gx gy y xs).length) (by simp)
    refine L.v (o_move (v := (.tuple #[(.slice p50 ((rowF gx gy y xs).length) c51), (.bool (rowB gx gy y xs))])) rfl) ?_
    refine L.v (o_extract (vs := #[(.slice p50 ((rowF gx gy y xs).length) c51), (.bool (rowB gx gy y xs))]) (v := (.slice p50 ((rowF gx gy y xs).length) c51)) rfl rfl rfl) ?_
    refine L.v (o_extract (vs := #[(.slice p50 ((rowF gx gy y xs).length) c51), (.bool (rowB gx gy y xs))]) (v := (.bool (rowB gx gy y xs))) rfl rfl rfl) ?_
    refine L.v (o_assign (v := (.slice p50 ((rowF gx gy y xs).length) c51)) rfl) ?_
    refine L.v (o_assign (v := (.bool (rowB gx gy y xs))) rfl) ?_
    refine L.nil ?_
    refine W.seq ?_
    refine W.seq ?_
    refine W.region ?_
    refine L.v (o_move (v := (.slice p50 ((rowF gx gy y xs).length) c51)) rfl) ?_
    refine L.v (o_move (v := (.slice p21 ((rowF gx gy y xs).length) c22)) rfl) ?_
    refine L.v (v := (.bool true)) (op_call [(.slice p50 ((rowF gx gy y xs).length) c51), (.slice p21 ((rowF gx gy y xs).length) c22)] Try.call14 rfl (eqF32S p50 p21 c51 c22 (rowF gx gy y xs) (Fsl.reads fs53) hs63 (by first | omega | exact rowF_le _ _ _ _))) ?_
    refine L.v (o_not (b := true) (c := false) rfl rfl) ?_
    refine L.v (o_move (v := (.bool false)) rfl) ?_
    refine L.gv (j := 4) (d₁ := 43) (b := false) rfl rfl rfl rfl (o_move (v := (.bool (rowB gx gy y xs))) rfl) ?_
    refine L.gv (j := 4) (d₁ := 43) (b := false) rfl rfl rfl rfl (o_move (v := (.bool (rowB gx gy y xs))) rfl) ?_
    refine L.gv (j := 4) (d₁ := 43) (b := false) rfl rfl rfl rfl (o_bneq (a := rowB gx gy y xs) (b := rowB gx gy y xs) (c := false) Try.underlying4 rfl rfl (by simp)) ?_
    refine L.v (o_pickF (b := false) (v := (.bool false)) rfl rfl rfl) ?_
    refine L.nil ?_
    refine W.condF (b := false) rfl rfl ?_
    refine W.skip ?_
    refine W.seq ?_
    refine W.seq ?_
    refine W.region ?_
    refine L.v (o_move (v := (.slice p34 xs.length xs.length)) rfl) ?_
    refine L.v (o_move (v := (.slice p xs.length c)) rfl) ?_
    refine L.cons (op_call [(.slice p xs.length c)] Try.call12 rfl (toF32S p c xs hs59 (by omega))) ?_
    rintro _ s71 ⟨p69, rfl, fs72⟩
    have ap73 : Apart (xs.length) (xs.length) p69 p := by simpa using Fsl.apart fs72 hs59 (fl_ne _)
    have ne74 := Fsl.ne fs72 hb60
    have ap75 : Apart (xs.length) (xs.length) p69 p11 := by simpa using Fsl.apart fs72 hs61 (fl_ne _)
    have ap76 : Apart (xs.length) ((rowF gx gy y xs).length) p69 p21 := by simpa using Fsl.apart fs72 hs63 (fl_ne _)
    have ap77 : Apart (xs.length) (xs.length) p69 p34 := by simpa using Fsl.apart fs72 hs65 (fl_ne _)
    have ap78 : Apart (xs.length) ((rowF gx gy y xs).length) p69 p50 := by simpa using Fsl.apart fs72 (Fsl.reads fs53) (fl_ne _)
    have hs79 := Sl.ext hs59 fs72.ext
    have hb80 := fs72.ext _ _ hb60
    have hs81 := Sl.ext hs61 fs72.ext
    have mu82 := Mut.ext mu62 fs72.ext
    have hs83 := Sl.ext hs63 fs72.ext
    have mu84 := Mut.ext mu64 fs72.ext
    have hs85 := Sl.ext hs65 fs72.ext
    have mu86 := Mut.ext mu66 fs72.ext
    have hs87 := Sl.ext (Fsl.reads fs53) fs72.ext
    have mu88 := Mut.ext mu68 fs72.ext
    have ex89 := Ext.trans ex67 fs72.ext
    have mu90 := Fsl.mut fs72 (xs.length) (by simp)
    refine L.v (v := (.bool true)) (op_call [(.slice p34 xs.length xs.length), (.slice p69 xs.length xs.length)] Try.call14 rfl (eqF32S p34 p69 xs.length xs.length xs hs85 (Fsl.reads fs72) (by first | omega | exact rowF_le _ _ _ _))) ?_
    refine L.v (o_not (b := true) (c := false) rfl rfl) ?_
    refine L.nil ?_
    refine W.condF (b := false) rfl rfl ?_
    refine W.skip ?_
    refine W.seq ?_
    refine W.region ?_
    refine L.v (o_assign (v := (.int .i64 1)) rfl) ?_
    refine L.nil ?_
    refine W.seq ?_
    refine W.region ?_
    refine L.v (o_move (v := (.slice p34 xs.length xs.length)) rfl) ?_
    refine L.v (o_move (v := (.int .i64 1)) rfl) ?_
    refine L.cons (op_call [(.slice p34 xs.length xs.length), (.int .i64 1)] Try.call15 rfl (markF p34 xs.length xs.length 1 mu86 (by first | omega | exact rowF_le _ _ _ _) (by omega))) ?_
    rintro _ s91 ⟨rfl, mk92, sl93⟩
    have hs94 := Sl.mkd hs79 mk92 (by simpa using ap38)
    have hb95 := Mkd.cells mk92 hb80 ne39
    have hs96 := Sl.mkd hs81 mk92 (by simpa using ap40)
    have mu97 := Mut.mkd mu82 mk92 ap40 (by simp)
    have hs98 := Sl.mkd hs83 mk92 (by simpa using ap41)
    have mu99 := Mut.mkd mu84 mk92 ap41 (by simp)
    have hs100 := Sl.mkd hs87 mk92 (by simpa using (Apart.symm ap58))
    have mu101 := Mut.mkd mu88 mk92 (Apart.symm ap58) (by simp)
    have hs102 := Sl.mkd (Fsl.reads fs72) mk92 (by simpa using (Apart.symm ap77))
    have mu103 := Mut.mkd mu90 mk92 (Apart.symm ap77) (by simp)
    refine L.v (o_assign (v := (.int .i64 (1 + (xs.length : Int)))) rfl) ?_
    refine L.nil ?_
    refine W.seq ?_
    refine W.seq ?_
    refine W.region ?_
    refine L.v (o_move (v := (.int .i64 (1 + (xs.length : Int)))) rfl) ?_
    refine L.v (o_ilss (a := 1 + (xs.length : Int)) (b := 0) rfl rfl rfl) ?_
    refine L.v (o_move (v := (.bool (decide ((1 + (xs.length : Int) : Int) < 0)))) rfl) ?_
    refine L.gv (j := 2) (d₁ := 58) (b := decide ((1 + (xs.length : Int) : Int) < 0)) rfl rfl rfl (decide_eq_false (by omega)) (o_move (v := (.slice p50 ((rowF gx gy y xs).length) c51)) rfl) ?_
    refine L.gv (j := 2) (d₁ := 58) (b := decide ((1 + (xs.length : Int) : Int) < 0)) rfl rfl rfl (decide_eq_false (by omega)) (o_move (v := (.slice p21 ((rowF gx gy y xs).length) c22)) rfl) ?_
    refine L.gv (j := 2) (d₁ := 58) (b := decide ((1 + (xs.length : Int) : Int) < 0)) rfl rfl rfl (decide_eq_false (by omega)) (v := (.bool true)) (op_call [(.slice p50 ((rowF gx gy y xs).length) c51), (.slice p21 ((rowF gx gy y xs).length) c22)] Try.call14 rfl (eqF32S p50 p21 c51 c22 (rowF gx gy y xs) hs100 hs98 (by first | omega | exact rowF_le _ _ _ _))) ?_
    refine L.gv (j := 2) (d₁ := 58) (b := decide ((1 + (xs.length : Int) : Int) < 0)) rfl rfl rfl (decide_eq_false (by omega)) (o_not (b := true) (c := false) rfl rfl) ?_
    refine L.v (o_pickF (b := decide ((1 + (xs.length : Int) : Int) < 0)) (v := (.bool false)) rfl (decide_eq_false (by omega)) rfl) ?_
    refine L.v (o_move (v := (.bool false)) rfl) ?_
    refine L.gv (j := 8) (d₁ := 64) (b := false) rfl rfl rfl rfl (o_move (v := (.bool (rowB gx gy y xs))) rfl) ?_
    refine L.gv (j := 8) (d₁ := 64) (b := false) rfl rfl rfl rfl (o_move (v := (.bool (rowB gx gy y xs))) rfl) ?_
    refine L.gv (j := 8) (d₁ := 64) (b := false) rfl rfl rfl rfl (o_bneq (a := rowB gx gy y xs) (b := rowB gx gy y xs) (c := false) Try.underlying4 rfl rfl (by simp)) ?_
    refine L.v (o_pickF (b := false) (v := (.bool false)) rfl rfl rfl) ?_
    refine L.nil ?_
    refine W.condF (b := false) rfl rfl ?_
    refine W.skip ?_
    refine W.seq ?_
    refine W.region ?_
    refine L.v (o_assign (v := (.int .i64 1)) rfl) ?_
    refine L.nil ?_
    refine W.seq ?_
    refine W.region ?_
    refine L.v (o_move (v := (.slice p50 ((rowF gx gy y xs).length) c51)) rfl) ?_
    refine L.v (o_move (v := (.int .i64 1)) rfl) ?_
    refine L.cons (op_call [(.slice p50 ((rowF gx gy y xs).length) c51), (.int .i64 1)] Try.call15 rfl (markF p50 ((rowF gx gy y xs).length) c51 1 mu101 (by first | omega | exact rowF_le _ _ _ _) (by omega))) ?_
    rintro _ s104 ⟨rfl, mk105, sl106⟩
    have hs107 := Sl.mkd hs94 mk105 (by simpa using ap54)
    have hb108 := Mkd.cells mk105 hb95 ne55
    have hs109 := Sl.mkd hs96 mk105 (by simpa using ap56)
    have mu110 := Mut.mkd mu97 mk105 ap56 (by simp)
    have hs111 := Sl.mkd hs98 mk105 (by simpa using ap57)
    have mu112 := Mut.mkd mu99 mk105 ap57 (by simp)
    have hs113 := Sl.mkd sl93 mk105 (by simpa using ap58)
    have hs114 := Sl.mkd hs102 mk105 (by simpa using (Apart.symm ap78))
    have mu115 := Mut.mkd mu103 mk105 (Apart.symm ap78) (by simp)
    refine L.v (o_assign (v := (.int .i64 (1 + (((rowF gx gy y xs).length : Nat) : Int)))) rfl) ?_
    refine L.nil ?_
    refine W.seq ?_
    refine W.region ?_
    refine L.v (o_assign (v := (.int .i64 1)) rfl) ?_
    refine L.nil ?_
    refine W.seq ?_
    refine W.region ?_
    refine L.v (o_move (v := (.slice p50 ((rowF gx gy y xs).length) c51)) rfl) ?_
    refine L.v (o_move (v := (.int .i64 1)) rfl) ?_
    refine L.v (v := (.int .i64 (1 + (((rowF gx gy y xs).length : Nat) : Int)))) (op_call [(.slice p50 ((rowF gx gy y xs).length) c51), (.int .i64 1)] Try.call16 rfl (heldF p50 ((rowF gx gy y xs).length) c51 1 sl106 (by first | omega | exact rowF_le _ _ _ _) (by omega))) ?_
    refine L.v (o_assign (v := (.int .i64 (1 + (((rowF gx gy y xs).length : Nat) : Int)))) rfl) ?_
    refine L.nil ?_
    refine W.seq ?_
    refine W.seq ?_
    refine W.region ?_
    refine L.v (o_move (v := (.int .i64 (1 + (((rowF gx gy y xs).length : Nat) : Int)))) rfl) ?_
    refine L.v (o_ilss (a := 1 + (((rowF gx gy y xs).length : Nat) : Int)) (b := 0) rfl rfl rfl) ?_
    refine L.nil ?_
    refine W.condF (b := decide ((1 + (((rowF gx gy y xs).length : Nat) : Int) : Int) < 0)) rfl (decide_eq_false (by omega)) ?_
    refine W.skip ?_
    refine W.seq ?_
    refine W.seq ?_
    refine W.region ?_
    refine L.v (o_move (v := (.int .i64 (1 + (((rowF gx gy y xs).length : Nat) : Int)))) rfl) ?_
    refine L.v (o_move (v := (.int .i64 (1 + (((rowF gx gy y xs).length : Nat) : Int)))) rfl) ?_
    refine L.v (o_ineq (a := 1 + (((rowF gx gy y xs).length : Nat) : Int)) (b := 1 + (((rowF gx gy y xs).length : Nat) : Int)) (c := false) rfl rfl (by simp)) ?_
    refine L.nil ?_
    refine W.condF (b := false) rfl rfl ?_
    refine W.skip ?_
    refine W.seq ?_
    refine W.region ?_
    refine L.v (o_loads (b := b1) (off := 0) (vs := [(.int .i64 gx), (.int .i64 gy)]) Try.isAgg23 Try.sizeOf23 rfl rfl (Rds.of hb108 (by intro j v hj; simpa using hj))) ?_
    refine L.v (v := (.agg #[(.int .i64 gx), (.int .i64 gy)])) (op_call [(.agg #[(.int .i64 gx), (.int .i64 gy)])] Try.call11 rfl (toGrid_c gx gy)) ?_
    refine L.v (o_move (v := (.slice p xs.length c)) rfl) ?_
    refine L.cons (op_call [(.slice p xs.length c)] Try.call12 rfl (toF32S p c xs hs107 (by omega))) ?_
    rintro _ s118 ⟨p116, rfl, fs119⟩
    have ap120 : Apart (xs.length) (xs.length) p116 p := by simpa using Fsl.apart fs119 hs107 (fl_ne _)
    have ne121 := Fsl.ne fs119 hb108
    have ap122 : Apart (xs.length) (xs.length) p116 p11 := by simpa using Fsl.apart fs119 hs109 (fl_ne _)
    have ap123 : Apart (xs.length) ((rowF gx gy y xs).length) p116 p21 := by simpa using Fsl.apart fs119 hs111 (fl_ne _)
    have ap124 : Apart (xs.length) (xs.length) p116 p34 := by simpa using Fsl.apart fs119 hs113 (marks32_ne _ _)
    have ap125 : Apart (xs.length) ((rowF gx gy y xs).length) p116 p50 := by simpa using Fsl.apart fs119 sl106 (marks32_ne _ _)
    have ap126 : Apart (xs.length) (xs.length) p116 p69 := by simpa using Fsl.apart fs119 hs114 (fl_ne _)
    have hs127 := Sl.ext hs107 fs119.ext
    have hb128 := fs119.ext _ _ hb108
    have hs129 := Sl.ext hs109 fs119.ext
    have mu130 := Mut.ext mu110 fs119.ext
    have hs131 := Sl.ext hs111 fs119.ext
    have mu132 := Mut.ext mu112 fs119.ext
    have hs133 := Sl.ext hs113 fs119.ext
    have hs134 := Sl.ext sl106 fs119.ext
    have hs135 := Sl.ext hs114 fs119.ext
    have mu136 := Mut.ext mu115 fs119.ext
    have mu137 := Fsl.mut fs119 (xs.length) (by simp)
    refine L.v (o_move (v := (.int .i64 y)) rfl) ?_
    refine L.cons (op_call [(.agg #[(.int .i64 gx), (.int .i64 gy)]), (.slice p116 xs.length xs.length), (.int .i64 y)] Try.call13 rfl (implRow gx gy p116 xs (Fsl.reads fs119) y)) ?_
    rintro _ s140 ⟨p138, c139, rfl, fs141⟩
    have ap142 : Apart ((rowF gx gy y xs).length) (xs.length) p138 p := by simpa using Fsl.apart fs141 hs127 (fl_ne _)
    have ne143 := Fsl.ne fs141 hb128
    have ap144 : Apart ((rowF gx gy y xs).length) (xs.length) p138 p11 := by simpa using Fsl.apart fs141 hs129 (fl_ne _)
    have ap145 : Apart ((rowF gx gy y xs).length) ((rowF gx gy y xs).length) p138 p21 := by simpa using Fsl.apart fs141 hs131 (fl_ne _)
    have ap146 : Apart ((rowF gx gy y xs).length) (xs.length) p138 p34 := by simpa using Fsl.apart fs141 hs133 (marks32_ne _ _)
    have ap147 : Apart ((rowF gx gy y xs).length) ((rowF gx gy y xs).length) p138 p50 := by simpa using Fsl.apart fs141 hs134 (marks32_ne _ _)
    have ap148 : Apart ((rowF gx gy y xs).length) (xs.length) p138 p69 := by simpa using Fsl.apart fs141 hs135 (fl_ne _)
    have ap149 : Apart ((rowF gx gy y xs).length) (xs.length) p138 p116 := by simpa using Fsl.apart fs141 (Fsl.reads fs119) (fl_ne _)
    have hs150 := Sl.ext hs127 fs141.ext
    have hb151 := fs141.ext _ _ hb128
    have hs152 := Sl.ext hs129 fs141.ext
    have mu153 := Mut.ext mu130 fs141.ext
    have hs154 := Sl.ext hs131 fs141.ext
    have mu155 := Mut.ext mu132 fs141.ext
    have hs156 := Sl.ext hs133 fs141.ext
    have hs157 := Sl.ext hs134 fs141.ext
    have hs158 := Sl.ext hs135 fs141.ext
    have mu159 := Mut.ext mu136 fs141.ext
    have hs160 := Sl.ext (Fsl.reads fs119) fs141.ext
    have mu161 := Mut.ext mu137 fs141.ext
    have mu162 := Fsl.mut fs141 ((rowF gx gy y xs).length) (by simp)
    refine L.v (o_move (v := (.tuple #[(.slice p138 ((rowF gx gy y xs).length) c139), (.bool (rowB gx gy y xs))])) rfl) ?_
    refine L.v (o_extract (vs := #[(.slice p138 ((rowF gx gy y xs).length) c139), (.bool (rowB gx gy y xs))]) (v := (.slice p138 ((rowF gx gy y xs).length) c139)) rfl rfl rfl) ?_
    refine L.v (o_extract (vs := #[(.slice p138 ((rowF gx gy y xs).length) c139), (.bool (rowB gx gy y xs))]) (v := (.bool (rowB gx gy y xs))) rfl rfl rfl) ?_
    refine L.v (o_assign (v := (.slice p138 ((rowF gx gy y xs).length) c139)) rfl) ?_
    refine L.v (o_assign (v := (.bool (rowB gx gy y xs))) rfl) ?_
    refine L.nil ?_
    refine W.seq ?_
    refine W.seq ?_
    refine W.region ?_
    refine L.v (o_move (v := (.slice p138 ((rowF gx gy y xs).length) c139)) rfl) ?_
    refine L.v (o_move (v := (.slice p21 ((rowF gx gy y xs).length) c22)) rfl) ?_
    refine L.v (v := (.bool true)) (op_call [(.slice p138 ((rowF gx gy y xs).length) c139), (.slice p21 ((rowF gx gy y xs).length) c22)] Try.call14 rfl (eqF32S p138 p21 c139 c22 (rowF gx gy y xs) (Fsl.reads fs141) hs154 (by first | omega | exact rowF_le _ _ _ _))) ?_
    refine L.v (o_not (b := true) (c := false) rfl rfl) ?_
    refine L.v (o_move (v := (.bool false)) rfl) ?_
    refine L.gv (j := 4) (d₁ := 93) (b := false) rfl rfl rfl rfl (o_move (v := (.bool (rowB gx gy y xs))) rfl) ?_
    refine L.gv (j := 4) (d₁ := 93) (b := false) rfl rfl rfl rfl (o_move (v := (.bool (rowB gx gy y xs))) rfl) ?_
    refine L.gv (j := 4) (d₁ := 93) (b := false) rfl rfl rfl rfl (o_bneq (a := rowB gx gy y xs) (b := rowB gx gy y xs) (c := false) Try.underlying4 rfl rfl (by simp)) ?_
    refine L.v (o_pickF (b := false) (v := (.bool false)) rfl rfl rfl) ?_
    refine L.nil ?_
    refine W.condF (b := false) rfl rfl ?_
    refine W.skip ?_
    refine W.seq ?_
    refine W.region ?_
    refine L.v (o_assign (v := (.int .i64 1)) rfl) ?_
    refine L.nil ?_
    refine W.seq ?_
    refine W.region ?_
    refine L.v (o_move (v := (.slice p50 ((rowF gx gy y xs).length) c51)) rfl) ?_
    refine L.v (o_move (v := (.int .i64 1)) rfl) ?_
    refine L.v (v := (.int .i64 (1 + (((rowF gx gy y xs).length : Nat) : Int)))) (op_call [(.slice p50 ((rowF gx gy y xs).length) c51), (.int .i64 1)] Try.call16 rfl (heldF p50 ((rowF gx gy y xs).length) c51 1 hs157 (by first | omega | exact rowF_le _ _ _ _) (by omega))) ?_
    refine L.v (o_assign (v := (.int .i64 (1 + (((rowF gx gy y xs).length : Nat) : Int)))) rfl) ?_
    refine L.nil ?_
    refine W.seq ?_
    refine W.seq ?_
    refine W.region ?_
    refine L.v (o_move (v := (.int .i64 (1 + (((rowF gx gy y xs).length : Nat) : Int)))) rfl) ?_
    refine L.v (o_ilss (a := 1 + (((rowF gx gy y xs).length : Nat) : Int)) (b := 0) rfl rfl rfl) ?_
    refine L.nil ?_
    refine W.condF (b := decide ((1 + (((rowF gx gy y xs).length : Nat) : Int) : Int) < 0)) rfl (decide_eq_false (by omega)) ?_
    refine W.skip ?_
    refine W.seq ?_
    refine W.seq ?_
    refine W.region ?_
    refine L.v (o_move (v := (.int .i64 (1 + (((rowF gx gy y xs).length : Nat) : Int)))) rfl) ?_
    refine L.v (o_move (v := (.int .i64 (1 + (((rowF gx gy y xs).length : Nat) : Int)))) rfl) ?_
    refine L.v (o_ineq (a := 1 + (((rowF gx gy y xs).length : Nat) : Int)) (b := 1 + (((rowF gx gy y xs).length : Nat) : Int)) (c := false) rfl rfl (by simp)) ?_
    refine L.nil ?_
    refine W.condF (b := false) rfl rfl ?_
    refine W.skip ?_
    refine W.seq ?_
    refine W.region ?_
    refine L.v (o_assign (v := (.bool true)) rfl) ?_
    refine L.nil ?_
    refine W.ret ?_
    exact RetK.one _ (.bool true) rfl rfl (Ext.refl _) rfl

end Go.Proofs.Ytpgmpjejfpmnoaa.En
