/- MeanRow in the program and in the reference, and its law: what each call gives, for every grid and every list that can be read. -/
import Derived.Test.YtpgmpjejfpmnoaaRow
import Derived.Test.YtpgmpjejfpmnoaaRows
namespace Go.Proofs.Ytpgmpjejfpmnoaa.En
open Go
set_option linter.unusedVariables false
def colSum (xs : List Nat) (w x : Nat) : Nat → Nat
  | 0 => 0
  | k + 1 => fop .add .f32 (colSum xs w x k) (xs.getD (x + w * k) 0)
def meanTo (xs : List Nat) (w h n : Nat) : List Nat := (List.range n).map fun x => fop .quo .f32 (colSum xs w x h) (FloatKind.nearest .f32 (h : Int))
theorem meanTo_succ (xs : List Nat) (w h n : Nat) : meanTo xs w h (n + 1) = meanTo xs w h n ++ [fop .quo .f32 (colSum xs w n h) (FloatKind.nearest .f32 (h : Int))] := by simp [meanTo, List.range_succ]
theorem meanTo_len (xs : List Nat) (w h n : Nat) : (meanTo xs w h n).length = n := by simp [meanTo]
def mo (xs : List Nat) (w h i : Nat) : List Nat := meanTo xs w h i ++ List.replicate (w - i) 0
theorem mo_init (xs : List Nat) (w h : Nat) : mo xs w h 0 = List.replicate w 0 := by simp [mo, meanTo]
theorem mo_full (xs : List Nat) (w h : Nat) : mo xs w h w = meanTo xs w h w := by simp [mo]
theorem mo_len {xs : List Nat} {w h i : Nat} (hi : i ≤ w) : (mo xs w h i).length = w := by rw [mo, List.length_append, meanTo_len, List.length_replicate]; omega
theorem mo_set {xs : List Nat} {w h i c : Nat} (hi : i < w) : (mo xs w h i).set i c = meanTo xs w h i ++ c :: List.replicate (w - (i + 1)) 0 := by
  rw [mo, List.set_append_right _ _ (by rw [meanTo_len]; omega), meanTo_len, Nat.sub_self, show w - i = (w - (i + 1)) + 1 by omega, List.replicate_succ, List.set_cons_zero]
theorem mo_zero {xs : List Nat} {w h i : Nat} (hi : i < w) : (mo xs w h i).set i (colSum xs w i 0) = mo xs w h i := by
  rw [mo_set hi, mo, show w - i = (w - (i + 1)) + 1 by omega, List.replicate_succ]; rfl
theorem mo_step {xs : List Nat} {w h i : Nat} (hi : i < w) : (mo xs w h i).set i (fop .quo .f32 (colSum xs w i h) (FloatKind.nearest .f32 (h : Int))) = mo xs w h (i + 1) := by
  rw [mo_set hi, mo, meanTo_succ, List.append_assoc]; rfl
theorem col_rd {s : Sg} {ob T w h i c : Nat} {xs : List Nat} (hi : i < w) : Rd (sg s ob (T, ((mo xs w h i).set i c).map (Value.float .f32))) ob (0 + i * 1) (.float .f32 c) :=
  Rd.of (sg_eq _ _ _) (by rw [show 0 + i * 1 = i by omega, mo_set hi, List.getElem?_map, List.getElem?_append_right (by rw [meanTo_len]; omega), meanTo_len, Nat.sub_self]; rfl)
theorem mod4 {x w : Nat} (h : x < w) : (((x + 4 * w : Nat) : Int)).tmod (w : Int) = (x : Int) := by
  rw [← Int.ofNat_tmod, Nat.add_mul_mod_self_right, Nat.mod_eq_of_lt h]
def meanC (gx gy : Int) (xs : List Nat) : Prop := ((4 ≤ gx ∧ gx ≤ 16) ∧ 4 ≤ gy ∧ gy ≤ 16) ∧ (xs.length : Int) = gx * gy
instance (gx gy : Int) (xs : List Nat) : Decidable (meanC gx gy xs) := by unfold meanC; infer_instance
def meanF (gx gy : Int) (xs : List Nat) : List Nat := if meanC gx gy xs then meanTo xs gx.toNat gy.toNat gx.toNat else []
def meanB (gx gy : Int) (xs : List Nat) : Bool := decide (meanC gx gy xs)
theorem meanF_no {gx gy : Int} {xs : List Nat} (h : ¬ (((4 ≤ gx ∧ gx ≤ 16) ∧ 4 ≤ gy ∧ gy ≤ 16) ∧ (xs.length : Int) = gx * gy)) : meanF gx gy xs = [] := if_neg h
theorem meanB_no {gx gy : Int} {xs : List Nat} (h : ¬ (((4 ≤ gx ∧ gx ≤ 16) ∧ 4 ≤ gy ∧ gy ≤ 16) ∧ (xs.length : Int) = gx * gy)) : meanB gx gy xs = false := decide_eq_false h
theorem meanF_yes {w h : Nat} {xs : List Nat} (hc : ((4 ≤ (w : Int) ∧ (w : Int) ≤ 16) ∧ 4 ≤ (h : Int) ∧ (h : Int) ≤ 16) ∧ (xs.length : Int) = (w : Int) * (h : Int)) : meanF w h xs = meanTo xs w h w := if_pos hc
theorem meanB_yes {w h : Nat} {xs : List Nat} (hc : ((4 ≤ (w : Int) ∧ (w : Int) ≤ 16) ∧ 4 ≤ (h : Int) ∧ (h : Int) ≤ 16) ∧ (xs.length : Int) = (w : Int) * (h : Int)) : meanB w h xs = true := decide_eq_true hc
theorem meanF_le (gx gy : Int) (xs : List Nat) : (meanF gx gy xs).length ≤ 1048576 := by
  by_cases h : meanC gx gy xs
  · rw [meanF, if_pos h, meanTo_len]; unfold meanC at h; omega
  · rw [meanF, if_neg h]; simp
theorem gridIndex {w0 : World} {σ : Sg} (w h x y : Nat) (hwb : 4 ≤ w ∧ w ≤ 16) (hhb : 4 ≤ h ∧ h ≤ 16) (hx : x < w) (hy : y < h) :
    FnV Try.prog w0 66 [(.agg #[(.int .i64 ↑w), (.int .i64 ↑h)]), (.int .i64 ↑x), (.int .i64 ↑y)] σ (.int .i64 ((x + w * y : Nat) : Int)) := by
  unfold FnV
  have hm1 := Nat.mul_le_mul_left w (show y + 1 ≤ h by omega)
  have hm2 : w * (y + 1) = w * y + w := Nat.mul_succ w y
  have hm3 := Nat.mul_le_mul (show w ≤ 16 by omega) (show h ≤ 16 by omega)
  have hm4 := Nat.mul_le_mul (show w ≤ 16 by omega) (show y ≤ 16 by omega)
  refine Fn.of_W 27 Try.func66 rfl Try.ntmps66 rfl ?_
  refine W.seq ?_
  refine W.region ?_
  refine L.cons (o_box (v := (.agg #[(.int .i64 (w : Int)), (.int .i64 (h : Int))])) rfl rfl [(.int .i64 (w : Int)), (.int .i64 (h : Int))] rfl) ?_
  rintro _ _ ⟨b1, hf2, hw3, rfl, rfl⟩
  have hb6 : (sg σ b1 (27, [(.int .i64 (w : Int)), (.int .i64 (h : Int))])) b1 = some (27, [(.int .i64 (w : Int)), (.int .i64 (h : Int))]) := sg_eq _ _ _
  have hx5 : Ext σ (sg σ b1 (27, [(.int .i64 (w : Int)), (.int .i64 (h : Int))])) := (Ext.refl _).sg hf2
  have ehx5 := Ext.trans (Ext.refl _) hx5
  generalize hgs4 : sg σ b1 (27, [(.int .i64 (w : Int)), (.int .i64 (h : Int))]) = s4 at *
  clear hgs4
  refine L.v (o_assign (v := (.int .i64 0)) rfl) ?_
  refine L.nil ?_
  refine W.seq ?_
  refine W.draw [true, true, true, true, true, true, true, true, true, true, true, true, true, true, true, true, true, true, true, true, true] (fun s => s = s4) (by kernel_rfl) (by kernel_rfl) ?_
  refine DL.v (fun _ hD => by cases hD; exact o_move (v := (.int .i64 (x : Int))) rfl) ?_
  refine DL.v (fun _ hD => by cases hD; exact o_fieldAddr (b := b1) (off := 0) (o := 0) (run_fieldAt (f := 0) (fld := { name := "Wide", type := 2, offset := 0, embedded := false, tag := "", pkgPath := "", byteOffset := 0 }) Try.underlying27 rfl Try.sizeOf2 (Nat.succ_ne_zero _)) rfl) ?_
  refine DL.v (fun _ hD => by cases hD; exact o_load (b := b1) (off := 0 + 0) (v := (.int .i64 (w : Int))) Try.isAgg2 rfl (Rd.of hb6 rfl) rfl) ?_
  refine DL.v (fun _ hD => by cases hD; exact o_imul (a := 4) (b := (w : Int)) (c := ((4 * w : Nat) : Int)) rfl rfl (by rw [IntWalk.i64_in _ (by omega)]; try omega)) ?_
  refine DL.v (fun _ hD => by cases hD; exact o_iadd (a := (x : Int)) (b := ((4 * w : Nat) : Int)) (c := ((x + 4 * w : Nat) : Int)) rfl rfl (by rw [IntWalk.i64_in _ (by omega)]; try omega)) ?_
  refine DL.v (fun _ hD => by cases hD; exact o_fieldAddr (b := b1) (off := 0) (o := 0) (run_fieldAt (f := 0) (fld := { name := "Wide", type := 2, offset := 0, embedded := false, tag := "", pkgPath := "", byteOffset := 0 }) Try.underlying27 rfl Try.sizeOf2 (Nat.succ_ne_zero _)) rfl) ?_
  refine DL.v (fun _ hD => by cases hD; exact o_load (b := b1) (off := 0 + 0) (v := (.int .i64 (w : Int))) Try.isAgg2 rfl (Rd.of hb6 rfl) rfl) ?_
  refine DL.v (fun _ hD => by cases hD; exact o_irem (a := ((x + 4 * w : Nat) : Int)) (b := (w : Int)) (c := (x : Int)) rfl rfl (by omega) (mod4 (by omega))) ?_
  refine DL.v (fun _ hD => by cases hD; exact o_fieldAddr (b := b1) (off := 0) (o := 0) (run_fieldAt (f := 0) (fld := { name := "Wide", type := 2, offset := 0, embedded := false, tag := "", pkgPath := "", byteOffset := 0 }) Try.underlying27 rfl Try.sizeOf2 (Nat.succ_ne_zero _)) rfl) ?_
  refine DL.v (fun _ hD => by cases hD; exact o_load (b := b1) (off := 0 + 0) (v := (.int .i64 (w : Int))) Try.isAgg2 rfl (Rd.of hb6 rfl) rfl) ?_
  refine DL.v (fun _ hD => by cases hD; exact o_move (v := (.int .i64 (y : Int))) rfl) ?_
  refine DL.v (fun _ hD => by cases hD; exact o_fieldAddr (b := b1) (off := 0) (o := 1) (run_fieldAt (f := 1) (fld := { name := "High", type := 2, offset := 1, embedded := false, tag := "", pkgPath := "", byteOffset := 8 }) Try.underlying27 rfl Try.sizeOf2 (Nat.succ_ne_zero _)) rfl) ?_
  refine DL.v (fun _ hD => by cases hD; exact o_load (b := b1) (off := 0 + 1) (v := (.int .i64 (h : Int))) Try.isAgg2 rfl (Rd.of hb6 rfl) rfl) ?_
  refine DL.v (fun _ hD => by cases hD; exact o_imul (a := 4) (b := (h : Int)) (c := ((4 * h : Nat) : Int)) rfl rfl (by rw [IntWalk.i64_in _ (by omega)]; try omega)) ?_
  refine DL.v (fun _ hD => by cases hD; exact o_iadd (a := (y : Int)) (b := ((4 * h : Nat) : Int)) (c := ((y + 4 * h : Nat) : Int)) rfl rfl (by rw [IntWalk.i64_in _ (by omega)]; try omega)) ?_
  refine DL.v (fun _ hD => by cases hD; exact o_fieldAddr (b := b1) (off := 0) (o := 1) (run_fieldAt (f := 1) (fld := { name := "High", type := 2, offset := 1, embedded := false, tag := "", pkgPath := "", byteOffset := 8 }) Try.underlying27 rfl Try.sizeOf2 (Nat.succ_ne_zero _)) rfl) ?_
  refine DL.v (fun _ hD => by cases hD; exact o_load (b := b1) (off := 0 + 1) (v := (.int .i64 (h : Int))) Try.isAgg2 rfl (Rd.of hb6 rfl) rfl) ?_
  refine DL.v (fun _ hD => by cases hD; exact o_irem (a := ((y + 4 * h : Nat) : Int)) (b := (h : Int)) (c := (y : Int)) rfl rfl (by omega) (mod4 (by omega))) ?_
  refine DL.v (fun _ hD => by cases hD; exact o_imul (a := (w : Int)) (b := (y : Int)) (c := ((w * y : Nat) : Int)) rfl rfl (by rw [← Int.natCast_mul, IntWalk.i64_in _ (by omega)])) ?_
  refine DL.v (fun _ hD => by cases hD; exact o_iadd (a := (x : Int)) (b := ((w * y : Nat) : Int)) (c := ((x + w * y : Nat) : Int)) rfl rfl (by rw [IntWalk.i64_in _ (by omega)]; try omega)) ?_
  refine DL.v (fun _ hD => by cases hD; exact o_assign (v := (.int .i64 (((x + w * y : Nat) : Int)))) rfl) ?_
  refine DL.nil rfl ?_
  refine W.ret ?_
  exact RetK.one σ (.int .i64 (((x + w * y : Nat) : Int))) rfl rfl ehx5 ⟨rfl, rfl⟩

theorem specMeanL {w0 : World} {σ : Sg} (b e w h : Nat) (hb : σ b = some (e, [.int .i64 (w : Int), .int .i64 (h : Int)])) (p : Option Addr) (xs : List Nat) (hs : Sl σ 1 p (xs.map fl)) (hwb : 4 ≤ w ∧ w ≤ 16) (hhb : 4 ≤ h ∧ h ≤ 16) (hl : xs.length = w * h) :
    Fn Try.prog w0 50 [(.pointer (some ⟨b, 0, none⟩)), (.slice p xs.length xs.length)] σ (RetFS w0 σ 1 ((meanTo xs w h w).map fl) w id) := by
  refine Fn.of_W 50 Try.func50 rfl Try.ntmps50 rfl ?_
  refine W.seq ?_
  refine W.region ?_
  refine L.v (o_assign (v := (.slice none 0 0)) rfl) ?_
  refine L.nil ?_
  refine W.seq ?_
  have hpos := Nat.mul_le_mul (show 4 ≤ w by omega) (show 4 ≤ h by omega)
  obtain ⟨sb, so, rfl, _⟩ := hs.elem 0 (by omega) 0
  refine W.region ?_
  refine L.cons (o_buildSlice (info := Try.t56) (z := .float .f32 0) [] Try.underlying24 Try.type56 rfl rfl rfl rfl (by decide) rfl rfl (by simp [Value.oneCell'])) ?_
  rintro _ _ ⟨b1, hf2, hw3, rfl, rfl⟩
  refine L.v (o_assign (v := (.slice (some ⟨b1, 0, none⟩) 0 0)) rfl) ?_
  refine L.nil ?_
  refine W.seq ?_
  refine W.seq ?_
  refine W.region ?_
  refine L.v (o_assign (v := (.int .i64 0)) rfl) ?_
  refine L.nil ?_
  refine W.block ?_
  have ho0 := Own.new (σ := σ) (e := 56) 1 hw3
  have hx0 : Ext σ (sg σ b1 (56, [])) := (Ext.refl _).sg hf2
  have hv0 := ownAt (n := 0) (c := 0) hf2
  refine W.loop (fun nn tt ss => ∃ (i : Nat) (v : Value), nn = w - i ∧ i ≤ w ∧ Own w0 ss 56 1 v i ((meanTo xs w h i).map (Value.float .f32)) ∧ Ext σ ss ∧ (∀ b, v.ownBlock = some b → σ b = none) ∧ FrOk tt [(0, (.pointer (some ⟨b, 0, none⟩))), (1, (.slice (some ⟨sb, so, none⟩) xs.length xs.length)), (5, v), (6, .int .i64 (i : Int))]) _ ⟨0, (.slice (some ⟨b1, 0, none⟩) 0 0), rfl, by omega, ho0, hx0, hv0, ⟨rfl, rfl, rfl, rfl, trivial⟩⟩ ?_
  rintro _ t1 s1 ⟨i, v, rfl, hi, ho, hx, hv, f1⟩
  rw [← frame_ok f1]
  show W _ _ _ _ _ (upd (upd (upd (upd t1 0 (.pointer (some ⟨b, 0, none⟩))) 1 (.slice (some ⟨sb, so, none⟩) xs.length xs.length)) 5 v) 6 (.int .i64 (i : Int))) _
  refine W.seq ?_
  refine W.seq ?_
  refine W.region ?_
  refine L.v (o_move (v := (.int .i64 (i : Int))) rfl) ?_
  refine L.v (o_move (v := (.pointer (some ⟨b, 0, none⟩))) rfl) ?_
  refine L.v (o_nilCheck (p := ⟨b, 0, none⟩) rfl) ?_
  refine L.v (o_fieldAddr (b := b) (off := 0) (o := 0) (run_fieldAt (f := 0) (fld := { name := "Wide", type := 2, offset := 0, embedded := false, tag := "", pkgPath := "", byteOffset := 0 }) Try.underlying27 rfl Try.sizeOf2 (Nat.succ_ne_zero _)) rfl) ?_
  refine L.v (o_load (b := b) (off := 0 + 0) (v := (.int .i64 (w : Int))) Try.isAgg2 rfl (Rd.of (hx _ _ hb) rfl) rfl) ?_
  refine L.v (o_ilss (a := (i : Int)) (b := (w : Int)) rfl rfl rfl) ?_
  refine L.nil ?_
  refine W.cond (b := decide (((i : Int) : Int) < (w : Int))) rfl (fun q4 => ?_) (fun q4 => ?_)
  ·
    have a5 : ((i : Int) : Int) < (w : Int) := of_decide_eq_true q4
    refine W.skip ?_
    refine W.seq ?_
    refine W.block ?_
    refine W.seq ?_
    refine W.region ?_
    refine L.v (o_assign (v := (.float .f32 0)) rfl) ?_
    refine L.nil ?_
    refine W.seq ?_
    refine W.seq ?_
    refine W.region ?_
    refine L.v (o_assign (v := (.int .i64 0)) rfl) ?_
    refine L.nil ?_
    refine W.block ?_
    refine W.loop (fun nn tt ss => ∃ (k : Nat), nn = h - k ∧ (k ≤ h) ∧ FrOk tt [(0, (.pointer (some ⟨b, 0, none⟩))), (1, (.slice (some ⟨sb, so, none⟩) xs.length xs.length)), (5, v), (6, (.int .i64 (i : Int))), (7, (.float .f32 (colSum xs w i k))), (8, (.int .i64 (k : Int)))] ∧ s1 = ss) _ ⟨0, rfl, (by omega), ⟨rfl, rfl, rfl, rfl, rfl, rfl, trivial⟩, rfl⟩ ?_
    rintro _ t6 _ ⟨k, rfl, hk, f7, rfl⟩
    rw [← frame_ok f7]
    show W _ _ _ _ _ (upd (upd (upd (upd (upd (upd t6 0 (.pointer (some ⟨b, 0, none⟩))) 1 (.slice (some ⟨sb, so, none⟩) xs.length xs.length)) 5 v) 6 (.int .i64 (i : Int))) 7 (.float .f32 (colSum xs w i k))) 8 (.int .i64 (k : Int))) _
    refine W.seq ?_
    refine W.seq ?_
    refine W.region ?_
    refine L.v (o_move (v := (.int .i64 (k : Int))) rfl) ?_
    refine L.v (o_move (v := (.pointer (some ⟨b, 0, none⟩))) rfl) ?_
    refine L.v (o_nilCheck (p := ⟨b, 0, none⟩) rfl) ?_
    refine L.v (o_fieldAddr (b := b) (off := 0) (o := 1) (run_fieldAt (f := 1) (fld := { name := "High", type := 2, offset := 1, embedded := false, tag := "", pkgPath := "", byteOffset := 8 }) Try.underlying27 rfl Try.sizeOf2 (Nat.succ_ne_zero _)) rfl) ?_
    refine L.v (o_load (b := b) (off := 0 + 1) (v := (.int .i64 (h : Int))) Try.isAgg2 rfl (Rd.of (hx _ _ hb) rfl) rfl) ?_
    refine L.v (o_ilss (a := (k : Int)) (b := (h : Int)) rfl rfl rfl) ?_
    refine L.nil ?_
    refine W.cond (b := decide (((k : Int) : Int) < (h : Int))) rfl (fun q8 => ?_) (fun q8 => ?_)
    ·
      have a9 : ((k : Int) : Int) < (h : Int) := of_decide_eq_true q8
      refine W.skip ?_
      refine W.seq ?_
      refine W.block ?_
      have hm1 := Nat.mul_le_mul_left w (show k + 1 ≤ h by omega)
      have hm2 : w * (k + 1) = w * k + w := Nat.mul_succ w k
      have hm3 := Nat.mul_le_mul (show w ≤ 16 by omega) (show h ≤ 16 by omega)
      refine W.region ?_
      refine L.v (o_move (v := (.float .f32 (colSum xs w i k))) rfl) ?_
      refine L.v (o_move (v := (.slice (some ⟨sb, so, none⟩) xs.length xs.length)) rfl) ?_
      refine L.v (o_move (v := (.int .i64 (i : Int))) rfl) ?_
      refine L.v (o_move (v := (.pointer (some ⟨b, 0, none⟩))) rfl) ?_
      refine L.v (o_nilCheck (p := ⟨b, 0, none⟩) rfl) ?_
      refine L.v (o_fieldAddr (b := b) (off := 0) (o := 0) (run_fieldAt (f := 0) (fld := { name := "Wide", type := 2, offset := 0, embedded := false, tag := "", pkgPath := "", byteOffset := 0 }) Try.underlying27 rfl Try.sizeOf2 (Nat.succ_ne_zero _)) rfl) ?_
      refine L.v (o_load (b := b) (off := 0 + 0) (v := (.int .i64 (w : Int))) Try.isAgg2 rfl (Rd.of (hx _ _ hb) rfl) rfl) ?_
      refine L.v (o_move (v := (.int .i64 (k : Int))) rfl) ?_
      refine L.v (o_imul (a := (w : Int)) (b := (k : Int)) (c := ((w * k : Nat) : Int)) rfl rfl (by rw [← Int.natCast_mul, IntWalk.i64_in _ (by omega)])) ?_
      refine L.v (o_iadd (a := (i : Int)) (b := ((w * k : Nat) : Int)) (c := ((i + w * k : Nat) : Int)) rfl rfl (by rw [IntWalk.i64_in _ (by omega)]; try omega)) ?_
      refine L.v (o_indexAddr (b := sb) (off := so) (n := xs.length) (c := xs.length) (i + w * k) Try.underlying24 Try.sizeOf56 rfl rfl (by omega)) ?_
      refine L.v (o_load (b := sb) (off := so + (i + w * k) * 1) (v := (.float .f32 (xs.getD (i + w * k) 0))) Try.isAgg56 rfl (Rds.fst (Sl.at (Sl.ext hs hx) (i + w * k) (by omega) 0)) rfl) ?_
      refine L.v (o_farith (k := .f32) (a := colSum xs w i k) (b := xs.getD (i + w * k) 0) rfl rfl rfl) ?_
      refine L.v (o_assign (v := (.float .f32 (fop .add .f32 (colSum xs w i k) (xs.getD (i + w * k) 0)))) rfl) ?_
      refine L.nil ?_
      refine W.region ?_
      refine L.v (o_move (v := (.int .i64 (k : Int))) rfl) ?_
      refine L.v (o_iadd (a := (k : Int)) (b := 1) (c := ((k + 1 : Nat) : Int)) rfl rfl (by rw [IntWalk.i64_in _ (by omega)]; try omega)) ?_
      refine L.v (o_assign (v := (.int .i64 (((k + 1 : Nat) : Int)))) rfl) ?_
      refine L.nil ?_
      exact ⟨_, (by omega), k + 1, rfl, (by omega), ⟨rfl, rfl, rfl, rfl, rfl, rfl, trivial⟩, rfl⟩
    ·
      have a10 : ¬ (((k : Int) : Int) < (h : Int)) := of_decide_eq_false q8
      refine W.exit ?_
      obtain rfl : h = k := by omega
      refine W.region ?_
      refine L.v (o_move (v := v) rfl) ?_
      refine L.v (o_move (v := (.float .f32 (colSum xs w i h))) rfl) ?_
      refine L.v (o_move (v := (.pointer (some ⟨b, 0, none⟩))) rfl) ?_
      refine L.v (o_nilCheck (p := ⟨b, 0, none⟩) rfl) ?_
      refine L.v (o_fieldAddr (b := b) (off := 0) (o := 1) (run_fieldAt (f := 1) (fld := { name := "High", type := 2, offset := 1, embedded := false, tag := "", pkgPath := "", byteOffset := 8 }) Try.underlying27 rfl Try.sizeOf2 (Nat.succ_ne_zero _)) rfl) ?_
      refine L.v (o_load (b := b) (off := 0 + 1) (v := (.int .i64 (h : Int))) Try.isAgg2 rfl (Rd.of (hx _ _ hb) rfl) rfl) ?_
      refine L.v (o_cvIF (a := (h : Int)) (by rw [Try.underlying2]; rfl) Try.underlying56 rfl) ?_
      refine L.v (o_farith (k := .f32) (a := colSum xs w i h) (b := FloatKind.nearest .f32 (h : Int)) rfl rfl rfl) ?_
      refine L.cons (o_buildSlice (info := Try.t56) (z := .float .f32 0) [(.float .f32 (fop .quo .f32 (colSum xs w i h) (FloatKind.nearest .f32 (h : Int))))] Try.underlying24 Try.type56 rfl rfl rfl rfl (by decide) rfl rfl (by simp [Value.oneCell'])) ?_
      rintro _ _ ⟨b11, hf12, hw13, rfl, rfl⟩
      have hx14 := Ext.trans hx ((Ext.refl _).sg (x := (56, [(.float .f32 (fop .quo .f32 (colSum xs w i h) (FloatKind.nearest .f32 (h : Int))))])) hf12)
      have ho15 := Own.ext ho ((Ext.refl _).sg (x := (56, [(.float .f32 (fop .quo .f32 (colSum xs w i h) (FloatKind.nearest .f32 (h : Int))))])) hf12)
      refine L.cons (o_append (info := Try.t56) (z := .float .f32 0) (size := 1) (bytes := 4) (v := v) (n := i) (m := 1) (c := 1) (b := b11) (off := 0) (xs := ((meanTo xs w h i).map (Value.float .f32))) (news := [(.float .f32 (fop .quo .f32 (colSum xs w i h) (FloatKind.nearest .f32 (h : Int))))]) Try.underlying24 Try.type56 rfl rfl rfl rfl rfl ho15 rfl (by decide) rfl (Rds.of (sg_eq _ _ _) (by intro j v hj; simpa using hj)) (by simp [Value.oneCell']) (by unfold maxLen; omega) (by omega)) ?_
      rintro v16 s17 ⟨ho18, gr19⟩
      have hx20 := Grew.ext gr19 hx14 hv
      have hv21 := Grew.fresh gr19 hx14 hv
      refine L.v (o_assign (v := v16) rfl) ?_
      refine L.nil ?_
      refine W.region ?_
      refine L.v (o_move (v := (.int .i64 (i : Int))) rfl) ?_
      refine L.v (o_iadd (a := (i : Int)) (b := 1) (c := ((i + 1 : Nat) : Int)) rfl rfl (by rw [IntWalk.i64_in _ (by omega)]; try omega)) ?_
      refine L.v (o_assign (v := (.int .i64 (((i + 1 : Nat) : Int)))) rfl) ?_
      refine L.nil ?_
      exact ⟨_, (by omega), i + 1, v16, rfl, by omega, by rw [meanTo_succ, List.map_append, List.map_singleton]; exact ho18, hx20, hv21, ⟨rfl, rfl, rfl, rfl, trivial⟩⟩
  ·
    have a22 : ¬ (((i : Int) : Int) < (w : Int)) := of_decide_eq_false q4
    refine W.exit ?_
    refine W.seq ?_
    refine W.region ?_
    refine L.v (o_move (v := v) rfl) ?_
    refine L.v (o_assign (v := v) rfl) ?_
    refine L.nil ?_
    refine W.ret ?_
    obtain rfl : w = i := by omega
    obtain ⟨p', c', hpc, hfs⟩ := Fsl.of_own (rows := (meanTo xs w h w).map fl) (n := w) (by rw [flat_fl]; exact ho) (by rw [List.length_map, meanTo_len]) (by simp [fl]) hx hv
    exact RetK.one s1 v rfl rfl (Ext.refl _) ⟨p', c', hpc, hfs⟩

theorem gridMean {w0 : World} {σ : Sg} (w h : Nat) (p : Option Addr) (xs : List Nat) (hs : Sl σ 1 p (xs.map fl)) (hwb : 4 ≤ w ∧ w ≤ 16) (hhb : 4 ≤ h ∧ h ≤ 16) (hl : xs.length = w * h) :
    Fn Try.prog w0 51 [(.agg #[(.int .i64 ↑w), (.int .i64 ↑h)]), (.slice p xs.length xs.length)] σ (RetFS w0 σ 1 ((meanTo xs w h w).map fl) w id) := by
  refine Fn.of_W 46 Try.func51 rfl Try.ntmps51 rfl ?_
  refine W.seq ?_
  refine W.region ?_
  refine L.cons (o_box (v := (.agg #[(.int .i64 (w : Int)), (.int .i64 (h : Int))])) rfl rfl [(.int .i64 (w : Int)), (.int .i64 (h : Int))] rfl) ?_
  rintro _ _ ⟨b1, hf2, hw3, rfl, rfl⟩
  have hb6 : (sg σ b1 (27, [(.int .i64 (w : Int)), (.int .i64 (h : Int))])) b1 = some (27, [(.int .i64 (w : Int)), (.int .i64 (h : Int))]) := sg_eq _ _ _
  have hx5 : Ext σ (sg σ b1 (27, [(.int .i64 (w : Int)), (.int .i64 (h : Int))])) := (Ext.refl _).sg hf2
  have hs7 := Sl.ext hs hx5
  have ehx5 := Ext.trans (Ext.refl _) hx5
  generalize hgs4 : sg σ b1 (27, [(.int .i64 (w : Int)), (.int .i64 (h : Int))]) = s4 at *
  clear hgs4
  refine L.v (o_assign (v := (.slice none 0 0)) rfl) ?_
  refine L.nil ?_
  refine W.seq ?_
  have hpos := Nat.mul_le_mul (show 4 ≤ w by omega) (show 4 ≤ h by omega)
  obtain ⟨sb, so, rfl, _⟩ := hs7.elem 0 (by omega) 0
  refine W.region ?_
  refine L.v (o_fieldAddr (b := b1) (off := 0) (o := 0) (run_fieldAt (f := 0) (fld := { name := "Wide", type := 2, offset := 0, embedded := false, tag := "", pkgPath := "", byteOffset := 0 }) Try.underlying27 rfl Try.sizeOf2 (Nat.succ_ne_zero _)) rfl) ?_
  refine L.v (o_load (b := b1) (off := 0 + 0) (v := (.int .i64 (w : Int))) Try.isAgg2 rfl (Rd.of hb6 rfl) rfl) ?_
  refine L.cons (o_makeSlice (ik := .i64) (info := Try.t56) (z := .float .f32 0) w Try.underlying24 Try.type56 rfl rfl (by show 4 * _ ≤ _; omega) (by omega)) ?_
  rintro _ _ ⟨ob, hf, hw, rfl, rfl⟩
  rw [show (madeCells ((Value.float .f32 0).cells) (w * Try.t56.size)).toList = (mo xs w h 0).map (Value.float .f32) by show (madeCells #[_] (w * 1)).toList = _; rw [Nat.mul_one, made_one, mo_init]; simp]
  refine L.v (o_assign (v := (.slice (some ⟨ob, 0, none⟩) w w)) rfl) ?_
  refine L.nil ?_
  refine W.seq ?_
  refine W.seq ?_
  refine W.region ?_
  refine L.v (o_fieldAddr (b := b1) (off := 0) (o := 0) (run_fieldAt (f := 0) (fld := { name := "Wide", type := 2, offset := 0, embedded := false, tag := "", pkgPath := "", byteOffset := 0 }) Try.underlying27 rfl Try.sizeOf2 (Nat.succ_ne_zero _)) rfl) ?_
  refine L.v (o_load (b := b1) (off := 0 + 0) (v := (.int .i64 (w : Int))) Try.isAgg2 rfl (Rd.of ((Ext.refl _).sg hf _ _ hb6) rfl) rfl) ?_
  refine L.v (o_move (v := (.int .i64 0)) rfl) ?_
  refine L.nil ?_
  refine W.block ?_
  refine W.loop (fun nn tt ss => ∃ (i : Nat), nn = w - i ∧ (i ≤ w) ∧ FrOk tt [(1, (.slice (some ⟨sb, so, none⟩) xs.length xs.length)), (2, (.pointer (some ⟨b1, 0, none⟩))), (5, (.slice (some ⟨ob, 0, none⟩) w w)), (12, (.int .i64 (w : Int))), (13, (.int .i64 (i : Int)))] ∧ sg s4 ob (56, (mo xs w h i).map (Value.float .f32)) = ss) _ ⟨0, rfl, (by omega), ⟨rfl, rfl, rfl, rfl, rfl, trivial⟩, rfl⟩ ?_
  rintro _ t8 _ ⟨i, rfl, hi, f9, rfl⟩
  rw [← frame_ok f9]
  show W _ _ _ _ _ (upd (upd (upd (upd (upd t8 1 (.slice (some ⟨sb, so, none⟩) xs.length xs.length)) 2 (.pointer (some ⟨b1, 0, none⟩))) 5 (.slice (some ⟨ob, 0, none⟩) w w)) 12 (.int .i64 (w : Int))) 13 (.int .i64 (i : Int))) _
  refine W.seq ?_
  refine W.region ?_
  refine L.v (o_ilss (a := (i : Int)) (b := (w : Int)) rfl rfl rfl) ?_
  refine L.nil ?_
  refine W.seq ?_
  refine W.cond (b := decide (((i : Int) : Int) < (w : Int))) rfl (fun q10 => ?_) (fun q10 => ?_)
  ·
    have a11 : ((i : Int) : Int) < (w : Int) := of_decide_eq_true q10
    refine W.skip ?_
    refine W.seq ?_
    refine W.block ?_
    refine W.seq ?_
    refine W.region ?_
    refine L.v (o_move (v := (.int .i64 (i : Int))) rfl) ?_
    refine L.v (o_assign (v := (.int .i64 (i : Int))) rfl) ?_
    refine L.nil ?_
    refine W.seq ?_
    refine W.seq ?_
    refine W.region ?_
    refine L.v (o_fieldAddr (b := b1) (off := 0) (o := 1) (run_fieldAt (f := 1) (fld := { name := "High", type := 2, offset := 1, embedded := false, tag := "", pkgPath := "", byteOffset := 8 }) Try.underlying27 rfl Try.sizeOf2 (Nat.succ_ne_zero _)) rfl) ?_
    refine L.v (o_load (b := b1) (off := 0 + 1) (v := (.int .i64 (h : Int))) Try.isAgg2 rfl (Rd.of ((Ext.refl _).sg hf _ _ hb6) rfl) rfl) ?_
    refine L.v (o_move (v := (.int .i64 0)) rfl) ?_
    refine L.nil ?_
    refine W.block ?_
    refine W.loop (fun nn tt ss => ∃ (k : Nat), nn = h - k ∧ (k ≤ h) ∧ FrOk tt [(1, (.slice (some ⟨sb, so, none⟩) xs.length xs.length)), (2, (.pointer (some ⟨b1, 0, none⟩))), (5, (.slice (some ⟨ob, 0, none⟩) w w)), (6, (.int .i64 (i : Int))), (12, (.int .i64 (w : Int))), (13, (.int .i64 (i : Int))), (17, (.int .i64 (h : Int))), (18, (.int .i64 (k : Int)))] ∧ sg s4 ob (56, ((mo xs w h i).set i (colSum xs w i k)).map (Value.float .f32)) = ss) _ ⟨0, rfl, (by omega), ⟨rfl, rfl, rfl, rfl, rfl, rfl, rfl, rfl, trivial⟩, (by rw [mo_zero (by omega)])⟩ ?_
    rintro _ t12 _ ⟨k, rfl, hk, f13, rfl⟩
    rw [← frame_ok f13]
    show W _ _ _ _ _ (upd (upd (upd (upd (upd (upd (upd (upd t12 1 (.slice (some ⟨sb, so, none⟩) xs.length xs.length)) 2 (.pointer (some ⟨b1, 0, none⟩))) 5 (.slice (some ⟨ob, 0, none⟩) w w)) 6 (.int .i64 (i : Int))) 12 (.int .i64 (w : Int))) 13 (.int .i64 (i : Int))) 17 (.int .i64 (h : Int))) 18 (.int .i64 (k : Int))) _
    refine W.seq ?_
    refine W.region ?_
    refine L.v (o_ilss (a := (k : Int)) (b := (h : Int)) rfl rfl rfl) ?_
    refine L.nil ?_
    refine W.seq ?_
    refine W.cond (b := decide (((k : Int) : Int) < (h : Int))) rfl (fun q14 => ?_) (fun q14 => ?_)
    ·
      have a15 : ((k : Int) : Int) < (h : Int) := of_decide_eq_true q14
      refine W.skip ?_
      refine W.seq ?_
      refine W.block ?_
      refine W.seq ?_
      refine W.region ?_
      refine L.v (o_move (v := (.int .i64 (k : Int))) rfl) ?_
      refine L.v (o_assign (v := (.int .i64 (k : Int))) rfl) ?_
      refine L.nil ?_
      have hm1 := Nat.mul_le_mul_left w (show k + 1 ≤ h by omega)
      have hm2 : w * (k + 1) = w * k + w := Nat.mul_succ w k
      have hm3 := Nat.mul_le_mul (show w ≤ 16 by omega) (show h ≤ 16 by omega)
      refine W.drawLast 13 (fun s => s = sg s4 ob (56, ((mo xs w h i).set i (colSum xs w i k)).map (Value.float .f32))) (by kernel_rfl) (by kernel_rfl) ?_
      refine QL.v (fun _ hD => by cases hD; exact o_move (v := (.slice (some ⟨ob, 0, none⟩) w w)) rfl) ?_
      refine QL.v (fun _ hD => by cases hD; exact o_move (v := (.int .i64 (i : Int))) rfl) ?_
      refine QL.v (fun _ hD => by cases hD; exact o_indexAddr (b := ob) (off := 0) (n := w) (c := w) i Try.underlying24 Try.sizeOf56 rfl rfl (by omega)) ?_
      refine QL.v (fun _ hD => by cases hD; exact o_load (b := ob) (off := 0 + i * 1) (v := (.float .f32 (colSum xs w i k))) Try.isAgg56 rfl (col_rd (by omega)) rfl) ?_
      refine QL.v (fun _ hD => by cases hD; exact o_move (v := (.slice (some ⟨sb, so, none⟩) xs.length xs.length)) rfl) ?_
      refine QL.v (fun _ hD => by cases hD; exact o_loads (b := b1) (off := 0) (vs := [(.int .i64 (w : Int)), (.int .i64 (h : Int))]) Try.isAgg27 Try.sizeOf27 rfl rfl (Rds.of ((Ext.refl _).sg hf _ _ hb6) (by intro j v hj; simpa using hj))) ?_
      refine QL.v (fun _ hD => by cases hD; exact o_move (v := (.int .i64 (i : Int))) rfl) ?_
      refine QL.v (fun _ hD => by cases hD; exact o_move (v := (.int .i64 (k : Int))) rfl) ?_
      refine QL.v (v := (.int .i64 (((i + w * k : Nat) : Int)))) (fun _ hD => by cases hD; exact op_call [(.agg #[(.int .i64 (w : Int)), (.int .i64 (h : Int))]), (.int .i64 (i : Int)), (.int .i64 (k : Int))] Try.call66 rfl (gridIndex w h i k (by omega) (by omega) (by omega) (by omega))) ?_
      refine QL.v (fun _ hD => by cases hD; exact o_indexAddr (b := sb) (off := so) (n := xs.length) (c := xs.length) (i + w * k) Try.underlying24 Try.sizeOf56 rfl rfl (by omega)) ?_
      refine QL.v (fun _ hD => by cases hD; exact o_load (b := sb) (off := so + (i + w * k) * 1) (v := (.float .f32 (xs.getD (i + w * k) 0))) Try.isAgg56 rfl (Rds.fst (Sl.at (Sl.ext hs7 ((Ext.refl _).sg hf)) (i + w * k) (by omega) 0)) rfl) ?_
      refine QL.v (fun _ hD => by cases hD; exact o_farith (k := .f32) (a := colSum xs w i k) (b := xs.getD (i + w * k) 0) rfl rfl rfl) ?_
      refine QL.v (fun _ hD => by cases hD; exact o_indexAddr (b := ob) (off := 0) (n := w) (c := w) i Try.underlying24 Try.sizeOf56 rfl rfl (by omega)) ?_
      refine QL.last0 rfl (o_store (b := ob) (off := 0 + i * 1) (v := (.float .f32 (fop .add .f32 (colSum xs w i k) (xs.getD (i + w * k) 0)))) (cs := ((mo xs w h i).set i (colSum xs w i k)).map (Value.float .f32)) Try.sizeOf56 rfl rfl rfl (sg_eq _ _ _) (by rw [List.length_map, List.length_set, mo_len (by omega)]; omega) hw) ?_
      rintro _ _ ⟨rfl, rfl⟩
      rw [sg_sg, show (((mo xs w h i).set i (colSum xs w i k)).map (Value.float .f32)).set (0 + i * 1) (.float .f32 (fop .add .f32 (colSum xs w i k) (xs.getD (i + w * k) 0))) = ((mo xs w h i).set i (colSum xs w i (k + 1))).map (Value.float .f32) by rw [show 0 + i * 1 = i by omega, ← List.map_set, List.set_set]; rfl]
      refine W.region ?_
      refine L.v (o_iadd (a := (k : Int)) (b := 1) (c := ((k + 1 : Nat) : Int)) rfl rfl (by rw [IntWalk.i64_in _ (by omega)]; try omega)) ?_
      refine L.v (o_move (v := (.int .i64 (((k + 1 : Nat) : Int)))) rfl) ?_
      refine L.nil ?_
      exact ⟨_, (by omega), k + 1, rfl, (by omega), ⟨rfl, rfl, rfl, rfl, rfl, rfl, rfl, rfl, trivial⟩, rfl⟩
    ·
      have a16 : ¬ (((k : Int) : Int) < (h : Int)) := of_decide_eq_false q14
      refine W.exit ?_
      obtain rfl : h = k := by omega
      refine W.drawLast 9 (fun s => s = sg s4 ob (56, ((mo xs w h i).set i (colSum xs w i h)).map (Value.float .f32))) (by kernel_rfl) (by kernel_rfl) ?_
      refine QL.v (fun _ hD => by cases hD; exact o_move (v := (.slice (some ⟨ob, 0, none⟩) w w)) rfl) ?_
      refine QL.v (fun _ hD => by cases hD; exact o_move (v := (.int .i64 (i : Int))) rfl) ?_
      refine QL.v (fun _ hD => by cases hD; exact o_indexAddr (b := ob) (off := 0) (n := w) (c := w) i Try.underlying24 Try.sizeOf56 rfl rfl (by omega)) ?_
      refine QL.v (fun _ hD => by cases hD; exact o_load (b := ob) (off := 0 + i * 1) (v := (.float .f32 (colSum xs w i h))) Try.isAgg56 rfl (col_rd (by omega)) rfl) ?_
      refine QL.v (fun _ hD => by cases hD; exact o_fieldAddr (b := b1) (off := 0) (o := 1) (run_fieldAt (f := 1) (fld := { name := "High", type := 2, offset := 1, embedded := false, tag := "", pkgPath := "", byteOffset := 8 }) Try.underlying27 rfl Try.sizeOf2 (Nat.succ_ne_zero _)) rfl) ?_
      refine QL.v (fun _ hD => by cases hD; exact o_load (b := b1) (off := 0 + 1) (v := (.int .i64 (h : Int))) Try.isAgg2 rfl (Rd.of ((Ext.refl _).sg hf _ _ hb6) rfl) rfl) ?_
      refine QL.v (fun _ hD => by cases hD; exact o_cvIF (a := (h : Int)) (by rw [Try.underlying2]; rfl) Try.underlying56 rfl) ?_
      refine QL.v (fun _ hD => by cases hD; exact o_farith (k := .f32) (a := colSum xs w i h) (b := FloatKind.nearest .f32 (h : Int)) rfl rfl rfl) ?_
      refine QL.v (fun _ hD => by cases hD; exact o_indexAddr (b := ob) (off := 0) (n := w) (c := w) i Try.underlying24 Try.sizeOf56 rfl rfl (by omega)) ?_
      refine QL.last0 rfl (o_store (b := ob) (off := 0 + i * 1) (v := (.float .f32 (fop .quo .f32 (colSum xs w i h) (FloatKind.nearest .f32 (h : Int))))) (cs := ((mo xs w h i).set i (colSum xs w i h)).map (Value.float .f32)) Try.sizeOf56 rfl rfl rfl (sg_eq _ _ _) (by rw [List.length_map, List.length_set, mo_len (by omega)]; omega) hw) ?_
      rintro _ _ ⟨rfl, rfl⟩
      rw [sg_sg, show (((mo xs w h i).set i (colSum xs w i h)).map (Value.float .f32)).set (0 + i * 1) (.float .f32 (fop .quo .f32 (colSum xs w i h) (FloatKind.nearest .f32 (h : Int)))) = (mo xs w h (i + 1)).map (Value.float .f32) by rw [show 0 + i * 1 = i by omega, ← List.map_set, List.set_set]; rw [mo_step (by omega)]]
      refine W.region ?_
      refine L.v (o_iadd (a := (i : Int)) (b := 1) (c := ((i + 1 : Nat) : Int)) rfl rfl (by rw [IntWalk.i64_in _ (by omega)]; try omega)) ?_
      refine L.v (o_move (v := (.int .i64 (((i + 1 : Nat) : Int)))) rfl) ?_
      refine L.nil ?_
      exact ⟨_, (by omega), i + 1, rfl, (by omega), ⟨rfl, rfl, rfl, rfl, rfl, trivial⟩, rfl⟩
  ·
    have a17 : ¬ (((i : Int) : Int) < (w : Int)) := of_decide_eq_false q10
    refine W.exit ?_
    refine W.seq ?_
    refine W.region ?_
    refine L.v (o_move (v := (.slice (some ⟨ob, 0, none⟩) w w)) rfl) ?_
    refine L.v (o_assign (v := (.slice (some ⟨ob, 0, none⟩) w w)) rfl) ?_
    refine L.nil ?_
    refine W.ret ?_
    obtain rfl : w = i := by omega
    rw [mo_full, show (meanTo xs w h w).map (Value.float .f32) = ((meanTo xs w h w).map fl).flatten from (flat_fl _).symm]
    exact RetK.one _ (.slice (some ⟨ob, 0, none⟩) w w) rfl rfl (Ext.refl _) ⟨_, w, rfl, Fsl.weaken (Fsl.of_newB hf hw (by simp [fl])) ehx5⟩

theorem specMean {w0 : World} {σ : Sg} (gx gy : Int) (p : Option Addr) (xs : List Nat) (hs : Sl σ 1 p (xs.map fl)) :
    Fn Try.prog w0 22 [(.agg #[(.int .i64 gx), (.int .i64 gy)]), (.slice p xs.length xs.length)] σ (RetFS w0 σ 1 ((meanF gx gy xs).map fl) (meanF gx gy xs).length (fun v => .tuple #[v, .bool (meanB gx gy xs)])) := by
  refine Fn.of_W 11 Try.func22 rfl Try.ntmps22 rfl ?_
  refine W.seq ?_
  refine W.region ?_
  refine L.cons (o_box (v := (.agg #[(.int .i64 gx), (.int .i64 gy)])) rfl rfl [(.int .i64 gx), (.int .i64 gy)] rfl) ?_
  rintro _ _ ⟨b1, hf2, hw3, rfl, rfl⟩
  have hb6 : (sg σ b1 (27, [(.int .i64 gx), (.int .i64 gy)])) b1 = some (27, [(.int .i64 gx), (.int .i64 gy)]) := sg_eq _ _ _
  have hx5 : Ext σ (sg σ b1 (27, [(.int .i64 gx), (.int .i64 gy)])) := (Ext.refl _).sg hf2
  have hs7 := Sl.ext hs hx5
  have ehx5 := Ext.trans (Ext.refl _) hx5
  generalize hgs4 : sg σ b1 (27, [(.int .i64 gx), (.int .i64 gy)]) = s4 at *
  clear hgs4
  refine L.v (o_assign (v := (.slice none 0 0)) rfl) ?_
  refine L.v (o_assign (v := (.bool false)) rfl) ?_
  refine L.nil ?_
  refine W.seq ?_
  refine W.seq ?_
  refine W.region ?_
  refine L.v (o_move (v := (.slice p xs.length xs.length)) rfl) ?_
  refine L.v (v := (.bool (decide (((4 ≤ (gx : Int) ∧ (gx : Int) ≤ 16) ∧ 4 ≤ (gy : Int) ∧ (gy : Int) ≤ 16) ∧ (xs.length : Int) = (gx : Int) * (gy : Int))))) (op_call [(.pointer (some ⟨b1, 0, none⟩)), (.slice p xs.length xs.length)] Try.call37 rfl (specField b1 _ gx gy hb6 p xs.length xs.length)) ?_
  refine L.v (o_not (b := decide (((4 ≤ (gx : Int) ∧ (gx : Int) ≤ 16) ∧ 4 ≤ (gy : Int) ∧ (gy : Int) ≤ 16) ∧ (xs.length : Int) = (gx : Int) * (gy : Int))) rfl rfl) ?_
  refine L.nil ?_
  refine W.cond (b := !(decide (((4 ≤ (gx : Int) ∧ (gx : Int) ≤ 16) ∧ 4 ≤ (gy : Int) ∧ (gy : Int) ≤ 16) ∧ (xs.length : Int) = (gx : Int) * (gy : Int)))) rfl (fun q8 => ?_) (fun q8 => ?_)
  ·
    have a9 : ¬ (((4 ≤ (gx : Int) ∧ (gx : Int) ≤ 16) ∧ 4 ≤ (gy : Int) ∧ (gy : Int) ≤ 16) ∧ (xs.length : Int) = (gx : Int) * (gy : Int)) := of_decide_eq_false (bn_t q8)
    refine W.seq ?_
    refine W.region ?_
    refine L.v (o_assign (v := (.slice none 0 0)) rfl) ?_
    refine L.v (o_assign (v := (.bool false)) rfl) ?_
    refine L.nil ?_
    refine W.ret ?_
    exact RetK.two σ (.slice none 0 0) (.bool false) rfl rfl rfl rfl rfl ehx5 ⟨none, 0, by rw [meanF_no (by omega), meanB_no (by omega)]; rfl, by rw [meanF_no (by omega)]; exact Fsl.nil 1⟩
  ·
    have a10 : ((4 ≤ (gx : Int) ∧ (gx : Int) ≤ 16) ∧ 4 ≤ (gy : Int) ∧ (gy : Int) ≤ 16) ∧ (xs.length : Int) = (gx : Int) * (gy : Int) := of_decide_eq_true (bn_f q8)
    refine W.skip ?_
    refine W.seq ?_
    obtain ⟨w, rfl⟩ : ∃ w : Nat, gx = (w : Int) := ⟨gx.toNat, by omega⟩
    obtain ⟨h, rfl⟩ : ∃ h : Nat, gy = (h : Int) := ⟨gy.toNat, by omega⟩
    refine W.region ?_
    refine L.v (o_move (v := (.slice p xs.length xs.length)) rfl) ?_
    refine L.cons (op_call [(.pointer (some ⟨b1, 0, none⟩)), (.slice p xs.length xs.length)] Try.call50 rfl (specMeanL b1 _ w h hb6 p xs hs7 (by omega) (by omega) (by omega))) ?_
    rintro _ s13 ⟨p11, c12, rfl, fs14⟩
    have ap15 : Apart ((meanTo xs w h w).length) (xs.length) p11 p := by simpa using Fsl.apart fs14 hs7 (fl_ne _)
    have ne16 := Fsl.ne fs14 hb6
    have hs17 := Sl.ext hs7 fs14.ext
    have hb18 := fs14.ext _ _ hb6
    have ex19 := Ext.trans ehx5 fs14.ext
    have mu20 := Fsl.mut fs14 ((meanTo xs w h w).length) (by simp)
    refine L.v (o_assign (v := (.slice p11 w c12)) rfl) ?_
    refine L.v (o_assign (v := (.bool true)) rfl) ?_
    refine L.nil ?_
    refine W.ret ?_
    exact RetK.two _ (.slice p11 w c12) (.bool true) rfl rfl rfl rfl rfl (Ext.refl _) ⟨_, _, by rw [meanF_yes (by omega), meanB_yes (by omega), meanTo_len], by rw [meanF_yes (by omega)]; exact Fsl.weaken fs14 ehx5⟩

theorem implMean {w0 : World} {σ : Sg} (gx gy : Int) (p : Option Addr) (xs : List Nat) (hs : Sl σ 1 p (xs.map fl)) :
    Fn Try.prog w0 23 [(.agg #[(.int .i64 gx), (.int .i64 gy)]), (.slice p xs.length xs.length)] σ (RetFS w0 σ 1 ((meanF gx gy xs).map fl) (meanF gx gy xs).length (fun v => .tuple #[v, .bool (meanB gx gy xs)])) := by
  refine Fn.of_W 13 Try.func23 rfl Try.ntmps23 rfl ?_
  refine W.seq ?_
  refine W.region ?_
  refine L.cons (o_box (v := (.agg #[(.int .i64 gx), (.int .i64 gy)])) rfl rfl [(.int .i64 gx), (.int .i64 gy)] rfl) ?_
  rintro _ _ ⟨b1, hf2, hw3, rfl, rfl⟩
  have hb6 : (sg σ b1 (27, [(.int .i64 gx), (.int .i64 gy)])) b1 = some (27, [(.int .i64 gx), (.int .i64 gy)]) := sg_eq _ _ _
  have hx5 : Ext σ (sg σ b1 (27, [(.int .i64 gx), (.int .i64 gy)])) := (Ext.refl _).sg hf2
  have hs7 := Sl.ext hs hx5
  have ehx5 := Ext.trans (Ext.refl _) hx5
  generalize hgs4 : sg σ b1 (27, [(.int .i64 gx), (.int .i64 gy)]) = s4 at *
  clear hgs4
  refine L.v (o_assign (v := (.slice none 0 0)) rfl) ?_
  refine L.v (o_assign (v := (.bool false)) rfl) ?_
  refine L.nil ?_
  refine W.seq ?_
  refine W.seq ?_
  refine W.region ?_
  refine L.v (o_loads (b := b1) (off := 0) (vs := [(.int .i64 gx), (.int .i64 gy)]) Try.isAgg27 Try.sizeOf27 rfl rfl (Rds.of hb6 (by intro j v hj; simpa using hj))) ?_
  refine L.v (o_move (v := (.slice p xs.length xs.length)) rfl) ?_
  refine L.v (v := (.bool (decide (((4 ≤ (gx : Int) ∧ (gx : Int) ≤ 16) ∧ 4 ≤ (gy : Int) ∧ (gy : Int) ≤ 16) ∧ (xs.length : Int) = (gx : Int) * (gy : Int))))) (op_call [(.agg #[(.int .i64 gx), (.int .i64 gy)]), (.slice p xs.length xs.length)] Try.call40 rfl (implField gx gy p xs.length xs.length)) ?_
  refine L.v (o_not (b := decide (((4 ≤ (gx : Int) ∧ (gx : Int) ≤ 16) ∧ 4 ≤ (gy : Int) ∧ (gy : Int) ≤ 16) ∧ (xs.length : Int) = (gx : Int) * (gy : Int))) rfl rfl) ?_
  refine L.nil ?_
  refine W.cond (b := !(decide (((4 ≤ (gx : Int) ∧ (gx : Int) ≤ 16) ∧ 4 ≤ (gy : Int) ∧ (gy : Int) ≤ 16) ∧ (xs.length : Int) = (gx : Int) * (gy : Int)))) rfl (fun q8 => ?_) (fun q8 => ?_)
  ·
    have a9 : ¬ (((4 ≤ (gx : Int) ∧ (gx : Int) ≤ 16) ∧ 4 ≤ (gy : Int) ∧ (gy : Int) ≤ 16) ∧ (xs.length : Int) = (gx : Int) * (gy : Int)) := of_decide_eq_false (bn_t q8)
    refine W.seq ?_
    refine W.region ?_
    refine L.v (o_assign (v := (.slice none 0 0)) rfl) ?_
    refine L.v (o_assign (v := (.bool false)) rfl) ?_
    refine L.nil ?_
    refine W.ret ?_
    exact RetK.two σ (.slice none 0 0) (.bool false) rfl rfl rfl rfl rfl ehx5 ⟨none, 0, by rw [meanF_no (by omega), meanB_no (by omega)]; rfl, by rw [meanF_no (by omega)]; exact Fsl.nil 1⟩
  ·
    have a10 : ((4 ≤ (gx : Int) ∧ (gx : Int) ≤ 16) ∧ 4 ≤ (gy : Int) ∧ (gy : Int) ≤ 16) ∧ (xs.length : Int) = (gx : Int) * (gy : Int) := of_decide_eq_true (bn_f q8)
    refine W.skip ?_
    refine W.seq ?_
    obtain ⟨w, rfl⟩ : ∃ w : Nat, gx = (w : Int) := ⟨gx.toNat, by omega⟩
    obtain ⟨h, rfl⟩ : ∃ h : Nat, gy = (h : Int) := ⟨gy.toNat, by omega⟩
    refine W.region ?_
    refine L.v (o_loads (b := b1) (off := 0) (vs := [(.int .i64 (w : Int)), (.int .i64 (h : Int))]) Try.isAgg27 Try.sizeOf27 rfl rfl (Rds.of hb6 (by intro j v hj; simpa using hj))) ?_
    refine L.v (o_move (v := (.slice p xs.length xs.length)) rfl) ?_
    refine L.cons (op_call [(.agg #[(.int .i64 (w : Int)), (.int .i64 (h : Int))]), (.slice p xs.length xs.length)] Try.call51 rfl (gridMean w h p xs hs7 (by omega) (by omega) (by omega))) ?_
    rintro _ s13 ⟨p11, c12, rfl, fs14⟩
    have ap15 : Apart ((meanTo xs w h w).length) (xs.length) p11 p := by simpa using Fsl.apart fs14 hs7 (fl_ne _)
    have ne16 := Fsl.ne fs14 hb6
    have hs17 := Sl.ext hs7 fs14.ext
    have hb18 := fs14.ext _ _ hb6
    have ex19 := Ext.trans ehx5 fs14.ext
    have mu20 := Fsl.mut fs14 ((meanTo xs w h w).length) (by simp)
    refine L.v (o_assign (v := (.slice p11 w c12)) rfl) ?_
    refine L.v (o_assign (v := (.bool true)) rfl) ?_
    refine L.nil ?_
    refine W.ret ?_
    exact RetK.two _ (.slice p11 w c12) (.bool true) rfl rfl rfl rfl rfl (Ext.refl _) ⟨_, _, by rw [meanF_yes (by omega), meanB_yes (by omega), meanTo_len], by rw [meanF_yes (by omega)]; exact Fsl.weaken fs14 ehx5⟩

theorem lawMean {w0 : World} {σ : Sg} (gx gy : Int) (p : Option Addr) (c : Nat) (xs : List Nat) (hs : Sl σ 1 p (xs.map fl)) :
    Fn Try.prog w0 5 [(.agg #[(.int .i64 gx), (.int .i64 gy)]), (.slice p xs.length c)] σ (fun u _ => u = .bool true) := by
  refine Fn.of_W 101 Try.func5 rfl Try.ntmps5 rfl ?_
  refine W.seq ?_
  refine W.region ?_
  refine L.cons (o_box (v := (.agg #[(.int .i64 gx), (.int .i64 gy)])) rfl rfl [(.int .i64 gx), (.int .i64 gy)] rfl) ?_
  rintro _ _ ⟨b1, hf2, hw3, rfl, rfl⟩
  have hb6 : (sg σ b1 (23, [(.int .i64 gx), (.int .i64 gy)])) b1 = some (23, [(.int .i64 gx), (.int .i64 gy)]) := sg_eq _ _ _
  have hx5 : Ext σ (sg σ b1 (23, [(.int .i64 gx), (.int .i64 gy)])) := (Ext.refl _).sg hf2
  have hs7 := Sl.ext hs hx5
  have ehx5 := Ext.trans (Ext.refl _) hx5
  generalize hgs4 : sg σ b1 (23, [(.int .i64 gx), (.int .i64 gy)]) = s4 at *
  clear hgs4
  refine L.v (o_assign (v := (.bool false)) rfl) ?_
  refine L.nil ?_
  refine W.seq ?_
  refine W.seq ?_
  refine W.region ?_
  refine L.v (o_move (v := (.slice p xs.length c)) rfl) ?_
  refine L.v (o_len (p := p) (n := xs.length) (c := c) Try.underlying24 rfl) ?_
  refine L.v (o_igtr (a := (xs.length : Int)) (b := 1048576) rfl rfl rfl) ?_
  refine L.nil ?_
  refine W.cond (b := decide ((1048576 : Int) < (xs.length : Int))) rfl (fun q8 => ?_) (fun q8 => ?_)
  ·
    have a9 : (1048576 : Int) < (xs.length : Int) := of_decide_eq_true q8
    refine W.seq ?_
    refine W.region ?_
    refine L.v (o_assign (v := (.bool true)) rfl) ?_
    refine L.nil ?_
    refine W.ret ?_
    exact RetK.one _ (.bool true) rfl rfl (Ext.refl _) rfl
  ·
    have a10 : ¬ ((1048576 : Int) < (xs.length : Int)) := of_decide_eq_false q8
    refine W.skip ?_
    refine W.seq ?_
    refine W.region ?_
    refine L.v (o_loads (b := b1) (off := 0) (vs := [(.int .i64 gx), (.int .i64 gy)]) Try.isAgg23 Try.sizeOf23 rfl rfl (Rds.of hb6 (by intro j v hj; simpa using hj))) ?_
    refine L.v (v := (.agg #[(.int .i64 gx), (.int .i64 gy)])) (op_call [(.agg #[(.int .i64 gx), (.int .i64 gy)])] Try.call11 rfl (toGrid_c gx gy)) ?_
    refine L.v (o_move (v := (.slice p xs.length c)) rfl) ?_
    refine L.cons (op_call [(.slice p xs.length c)] Try.call12 rfl (toF32S p c xs hs7 (by omega))) ?_
    rintro _ s13 ⟨p11, rfl, fs14⟩
    have ap15 : Apart (xs.length) (xs.length) p11 p := by simpa using Fsl.apart fs14 hs7 (fl_ne _)
    have ne16 := Fsl.ne fs14 hb6
    have hs17 := Sl.ext hs7 fs14.ext
    have hb18 := fs14.ext _ _ hb6
    have ex19 := Ext.trans ehx5 fs14.ext
    have mu20 := Fsl.mut fs14 (xs.length) (by simp)
    refine L.cons (op_call [(.agg #[(.int .i64 gx), (.int .i64 gy)]), (.slice p11 xs.length xs.length)] Try.call22 rfl (specMean gx gy p11 xs (Fsl.reads fs14))) ?_
    rintro _ s23 ⟨p21, c22, rfl, fs24⟩
    have ap25 : Apart ((meanF gx gy xs).length) (xs.length) p21 p := by simpa using Fsl.apart fs24 hs17 (fl_ne _)
    have ne26 := Fsl.ne fs24 hb18
    have ap27 : Apart ((meanF gx gy xs).length) (xs.length) p21 p11 := by simpa using Fsl.apart fs24 (Fsl.reads fs14) (fl_ne _)
    have hs28 := Sl.ext hs17 fs24.ext
    have hb29 := fs24.ext _ _ hb18
    have hs30 := Sl.ext (Fsl.reads fs14) fs24.ext
    have mu31 := Mut.ext mu20 fs24.ext
    have ex32 := Ext.trans ex19 fs24.ext
    have mu33 := Fsl.mut fs24 ((meanF gx gy xs).length) (by simp)
    refine L.v (o_move (v := (.tuple #[(.slice p21 ((meanF gx gy xs).length) c22), (.bool (meanB gx gy xs))])) rfl) ?_
    refine L.v (o_extract (vs := #[(.slice p21 ((meanF gx gy xs).length) c22), (.bool (meanB gx gy xs))]) (v := (.slice p21 ((meanF gx gy xs).length) c22)) rfl rfl rfl) ?_
    refine L.v (o_extract (vs := #[(.slice p21 ((meanF gx gy xs).length) c22), (.bool (meanB gx gy xs))]) (v := (.bool (meanB gx gy xs))) rfl rfl rfl) ?_
    refine L.v (o_assign (v := (.slice p21 ((meanF gx gy xs).length) c22)) rfl) ?_
    refine L.v (o_assign (v := (.bool (meanB gx gy xs))) rfl) ?_
    refine L.nil ?_
    refine W.seq ?_
    refine W.region ?_
    refine L.v (o_move (v := (.slice p xs.length c)) rfl) ?_
    refine L.cons (op_call [(.slice p xs.length c)] Try.call12 rfl (toF32S p c xs hs28 (by omega))) ?_
    rintro _ s36 ⟨p34, rfl, fs37⟩
    have ap38 : Apart (xs.length) (xs.length) p34 p := by simpa using Fsl.apart fs37 hs28 (fl_ne _)
    have ne39 := Fsl.ne fs37 hb29
    have ap40 : Apart (xs.length) (xs.length) p34 p11 := by simpa using Fsl.apart fs37 hs30 (fl_ne _)
    have ap41 : Apart (xs.length) ((meanF gx gy xs).length) p34 p21 := by simpa using Fsl.apart fs37 (Fsl.reads fs24) (fl_ne _)
    have hs42 := Sl.ext hs28 fs37.ext
    have hb43 := fs37.ext _ _ hb29
    have hs44 := Sl.ext hs30 fs37.ext
    have mu45 := Mut.ext mu31 fs37.ext
    have hs46 := Sl.ext (Fsl.reads fs24) fs37.ext
    have mu47 := Mut.ext mu33 fs37.ext
    have ex48 := Ext.trans ex32 fs37.ext
    have mu49 := Fsl.mut fs37 (xs.length) (by simp)
    refine L.v (o_assign (v := (.slice p34 xs.length xs.length)) rfl) ?_
    refine L.nil ?_
    refine W.seq ?_
    refine W.region ?_
    refine L.v (o_loads (b := b1) (off := 0) (vs := [(.int .i64 gx), (.int .i64 gy)]) Try.isAgg23 Try.sizeOf23 rfl rfl (Rds.of hb43 (by intro j v hj; simpa using hj))) ?_
    refine L.v (v := (.agg #[(.int .i64 gx), (.int .i64 gy)])) (op_call [(.agg #[(.int .i64 gx), (.int .i64 gy)])] Try.call11 rfl (toGrid_c gx gy)) ?_
    refine L.v (o_move (v := (.slice p34 xs.length xs.length)) rfl) ?_
    refine L.cons (op_call [(.agg #[(.int .i64 gx), (.int .i64 gy)]), (.slice p34 xs.length xs.length)] Try.call23 rfl (implMean gx gy p34 xs (Fsl.reads fs37))) ?_
    rintro _ s52 ⟨p50, c51, rfl, fs53⟩
    have ap54 : Apart ((meanF gx gy xs).length) (xs.length) p50 p := by simpa using Fsl.apart fs53 hs42 (fl_ne _)
    have ne55 := Fsl.ne fs53 hb43
    have ap56 : Apart ((meanF gx gy xs).length) (xs.length) p50 p11 := by simpa using Fsl.apart fs53 hs44 (fl_ne _)
    have ap57 : Apart ((meanF gx gy xs).length) ((meanF gx gy xs).length) p50 p21 := by simpa using Fsl.apart fs53 hs46 (fl_ne _)
    have ap58 : Apart ((meanF gx gy xs).length) (xs.length) p50 p34 := by simpa using Fsl.apart fs53 (Fsl.reads fs37) (fl_ne _)
    have hs59 := Sl.ext hs42 fs53.ext
    have hb60 := fs53.ext _ _ hb43
    have hs61 := Sl.ext hs44 fs53.ext
    have mu62 := Mut.ext mu45 fs53.ext
    have hs63 := Sl.ext hs46 fs53.ext
    have mu64 := Mut.ext mu47 fs53.ext
    have hs65 := Sl.ext (Fsl.reads fs37) fs53.ext
    have mu66 := Mut.ext mu49 fs53.ext
    have ex67 := Ext.trans ex48 fs53.ext
    have mu68 := Fsl.mut fs53 ((meanF gx gy xs).length) (by simp)
    refine L.v (o_move (v := (.tuple #[(.slice p50 ((meanF gx gy xs).length) c51), (.bool (meanB gx gy xs))])) rfl) ?_
    refine L.v (o_extract (vs := #[(.slice p50 ((meanF gx gy xs).length) c51), (.bool (meanB gx gy xs))]) (v := (.slice p50 ((meanF gx gy xs).length) c51)) rfl rfl rfl) ?_
    refine L.v (o_extract (vs := #[(.slice p50 ((meanF gx gy xs).length) c51), (.bool (meanB gx gy xs))]) (v := (.bool (meanB gx gy xs))) rfl rfl rfl) ?_
    refine L.v (o_assign (v := (.slice p50 ((meanF gx gy xs).length) c51)) rfl) ?_
    refine L.v (o_assign (v := (.bool (meanB gx gy xs))) rfl) ?_
    refine L.nil ?_
    refine W.seq ?_
    refine W.seq ?_
    refine W.region ?_
    refine L.v (o_move (v := (.slice p50 ((meanF gx gy xs).length) c51)) rfl) ?_
    refine L.v (o_move (v := (.slice p21 ((meanF gx gy xs).length) c22)) rfl) ?_
    refine L.v (v := (.bool true)) (op_call [(.slice p50 ((meanF gx gy xs).length) c51), (.slice p21 ((meanF gx gy xs).length) c22)] Try.call14 rfl (eqF32S p50 p21 c51 c22 (meanF gx gy xs) (Fsl.reads fs53) hs63 (by first | omega | exact meanF_le _ _ _))) ?_
    refine L.v (o_not (b := true) (c := false) rfl rfl) ?_
    refine L.v (o_move (v := (.bool false)) rfl) ?_
    refine L.gv (j := 4) (d₁ := 39) (b := false) rfl rfl rfl rfl (o_move (v := (.bool (meanB gx gy xs))) rfl) ?_
    refine L.gv (j := 4) (d₁ := 39) (b := false) rfl rfl rfl rfl (o_move (v := (.bool (meanB gx gy xs))) rfl) ?_
    refine L.gv (j := 4) (d₁ := 39) (b := false) rfl rfl rfl rfl (o_bneq (a := meanB gx gy xs) (b := meanB gx gy xs) (c := false) Try.underlying4 rfl rfl (by simp)) ?_
    refine L.v (o_pickF (b := false) (v := (.bool false)) rfl rfl rfl) ?_
    refine L.nil ?_
    refine W.condF (b := false) rfl rfl ?_
    refine W.skip ?_
    refine W.seq ?_
    refine W.seq ?_
    refine W.region ?_
    refine L.v (o_move (v := (.slice p34 xs.length xs.length)) rfl) ?_
    refine L.v (o_move (v := (.slice p xs.length c)) rfl) ?_
    refine L.cons (op_call [(.slice p xs.length c)] Try.call12 rfl (toF32S p c xs hs59 (by omega))) ?_
    rintro _ s71 ⟨p69, rfl, fs72⟩
    have ap73 : Apart (xs.length) (xs.length) p69 p := by simpa using Fsl.apart fs72 hs59 (fl_ne _)
    have ne74 := Fsl.ne fs72 hb60
    have ap75 : Apart (xs.length) (xs.length) p69 p11 := by simpa using Fsl.apart fs72 hs61 (fl_ne _)
    have ap76 : Apart (xs.length) ((meanF gx gy xs).length) p69 p21 := by simpa using Fsl.apart fs72 hs63 (fl_ne _)
    have ap77 : Apart (xs.length) (xs.length) p69 p34 := by simpa using Fsl.apart fs72 hs65 (fl_ne _)
    have ap78 : Apart (xs.length) ((meanF gx gy xs).length) p69 p50 := by simpa using Fsl.apart fs72 (Fsl.reads fs53) (fl_ne _)
    have hs79 := Sl.ext hs59 fs72.ext
    have hb80 := fs72.ext _ _ hb60
    have hs81 := Sl.ext hs61 fs72.ext
    have mu82 := Mut.ext mu62 fs72.ext
    have hs83 := Sl.ext hs63 fs72.ext
    have mu84 := Mut.ext mu64 fs72.ext
    have hs85 := Sl.ext hs65 fs72.ext
    have mu86 := Mut.ext mu66 fs72.ext
    have hs87 := Sl.ext (Fsl.reads fs53) fs72.ext
    have mu88 := Mut.ext mu68 fs72.ext
    have ex89 := Ext.trans ex67 fs72.ext
    have mu90 := Fsl.mut fs72 (xs.length) (by simp)
    refine L.v (v := (.bool true)) (op_call [(.slice p34 xs.length xs.length), (.slice p69 xs.length xs.length)] Try.call14 rfl (eqF32S p34 p69 xs.length xs.length xs hs85 (Fsl.reads fs72) (by first | omega | exact meanF_le _ _ _))) ?_
    refine L.v (o_not (b := true) (c := false) rfl rfl) ?_
    refine L.nil ?_
    refine W.condF (b := false) rfl rfl ?_
    refine W.skip ?_
    refine W.seq ?_
    refine W.region ?_
    refine L.v (o_assign (v := (.int .i64 1)) rfl) ?_
    refine L.nil ?_
    refine W.seq ?_
    refine W.region ?_
    refine L.v (o_move (v := (.slice p34 xs.length xs.length)) rfl) ?_
    refine L.v (o_move (v := (.int .i64 1)) rfl) ?_
    refine L.cons (op_call [(.slice p34 xs.length xs.length), (.int .i64 1)] Try.call15 rfl (markF p34 xs.length xs.length 1 mu86 (by first | omega | exact meanF_le _ _ _) (by omega))) ?_
    rintro _ s91 ⟨rfl, mk92, sl93⟩
    have hs94 := Sl.mkd hs79 mk92 (by simpa using ap38)
    have hb95 := Mkd.cells mk92 hb80 ne39
    have hs96 := Sl.mkd hs81 mk92 (by simpa using ap40)
    have mu97 := Mut.mkd mu82 mk92 ap40 (by simp)
    have hs98 := Sl.mkd hs83 mk92 (by simpa using ap41)
    have mu99 := Mut.mkd mu84 mk92 ap41 (by simp)
    have hs100 := Sl.mkd hs87 mk92 (by simpa using (Apart.symm ap58))
    have mu101 := Mut.mkd mu88 mk92 (Apart.symm ap58) (by simp)
    have hs102 := Sl.mkd (Fsl.reads fs72) mk92 (by simpa using (Apart.symm ap77))
    have mu103 := Mut.mkd mu90 mk92 (Apart.symm ap77) (by simp)
    refine L.v (o_assign (v := (.int .i64 (1 + (xs.length : Int)))) rfl) ?_
    refine L.nil ?_
    refine W.seq ?_
    refine W.seq ?_
    refine W.region ?_
    refine L.v (o_move (v := (.int .i64 (1 + (xs.length : Int)))) rfl) ?_
    refine L.v (o_ilss (a := 1 + (xs.length : Int)) (b := 0) rfl rfl rfl) ?_
    refine L.v (o_move (v := (.bool (decide ((1 + (xs.length : Int) : Int) < 0)))) rfl) ?_
    refine L.gv (j := 2) (d₁ := 54) (b := decide ((1 + (xs.length : Int) : Int) < 0)) rfl rfl rfl (decide_eq_false (by omega)) (o_move (v := (.slice p50 ((meanF gx gy xs).length) c51)) rfl) ?_
    refine L.gv (j := 2) (d₁ := 54) (b := decide ((1 + (xs.length : Int) : Int) < 0)) rfl rfl rfl (decide_eq_false (by omega)) (o_move (v := (.slice p21 ((meanF gx gy xs).length) c22)) rfl) ?_
    refine L.gv (j := 2) (d₁ := 54) (b := decide ((1 + (xs.length : Int) : Int) < 0)) rfl rfl rfl (decide_eq_false (by omega)) (v := (.bool true)) (op_call [(.slice p50 ((meanF gx gy xs).length) c51), (.slice p21 ((meanF gx gy xs).length) c22)] Try.call14 rfl (eqF32S p50 p21 c51 c22 (meanF gx gy xs) hs100 hs98 (by first | omega | exact meanF_le _ _ _))) ?_
    refine L.gv (j := 2) (d₁ := 54) (b := decide ((1 + (xs.length : Int) : Int) < 0)) rfl rfl rfl (decide_eq_false (by omega)) (o_not (b := true) (c := false) rfl rfl) ?_
    refine L.v (o_pickF (b := decide ((1 + (xs.length : Int) : Int) < 0)) (v := (.bool false)) rfl (decide_eq_false (by omega)) rfl) ?_
    refine L.v (o_move (v := (.bool false)) rfl) ?_
    refine L.gv (j := 8) (d₁ := 60) (b := false) rfl rfl rfl rfl (o_move (v := (.bool (meanB gx gy xs))) rfl) ?_
    refine L.gv (j := 8) (d₁ := 60) (b := false) rfl rfl rfl rfl (o_move (v := (.bool (meanB gx gy xs))) rfl) ?_
    refine L.gv (j := 8) (d₁ := 60) (b := false) rfl rfl rfl rfl (o_bneq (a := meanB gx gy xs) (b := meanB gx gy xs) (c := false) Try.underlying4 rfl rfl (by simp)) ?_
    refine L.v (o_pickF (b := false) (v := (.bool false)) rfl rfl rfl) ?_
    refine L.nil ?_
    refine W.condF (b := false) rfl rfl ?_
    refine W.skip ?_
    refine W.seq ?_
    refine W.region ?_
    refine L.v (o_assign (v := (.int .i64 1)) rfl) ?_
    refine L.nil ?_
    refine W.seq ?_
    refine W.region ?_
    refine L.v (o_move (v := (.slice p50 ((meanF gx gy xs).length) c51)) rfl) ?_
    refine L.v (o_move (v := (.int .i64 1)) rfl) ?_
    refine L.cons (op_call [(.slice p50 ((meanF gx gy xs).length) c51), (.int .i64 1)] Try.call15 rfl (markF p50 ((meanF gx gy xs).length) c51 1 mu101 (by first | omega | exact meanF_le _ _ _) (by omega))) ?_
    rintro _ s104 ⟨rfl, mk105, sl106⟩
    have hs107 := Sl.mkd hs94 mk105 (by simpa using ap54)
    have hb108 := Mkd.cells mk105 hb95 ne55
    have hs109 := Sl.mkd hs96 mk105 (by simpa using ap56)
    have mu110 := Mut.mkd mu97 mk105 ap56 (by simp)
    have hs111 := Sl.mkd hs98 mk105 (by simpa using ap57)
    have mu112 := Mut.mkd mu99 mk105 ap57 (by simp)
    have hs113 := Sl.mkd sl93 mk105 (by simpa using ap58)
    have hs114 := Sl.mkd hs102 mk105 (by simpa using (Apart.symm ap78))
    have mu115 := Mut.mkd mu103 mk105 (Apart.symm ap78) (by simp)
    refine L.v (o_assign (v := (.int .i64 (1 + (((meanF gx gy xs).length : Nat) : Int)))) rfl) ?_
    refine L.nil ?_
    refine W.seq ?_
    refine W.region ?_
    refine L.v (o_assign (v := (.int .i64 1)) rfl) ?_
    refine L.nil ?_
    refine W.seq ?_
    refine W.region ?_
    refine L.v (o_move (v := (.slice p50 ((meanF gx gy xs).length) c51)) rfl) ?_
    refine L.v (o_move (v := (.int .i64 1)) rfl) ?_
    refine L.v (v := (.int .i64 (1 + (((meanF gx gy xs).length : Nat) : Int)))) (op_call [(.slice p50 ((meanF gx gy xs).length) c51), (.int .i64 1)] Try.call16 rfl (heldF p50 ((meanF gx gy xs).length) c51 1 sl106 (by first | omega | exact meanF_le _ _ _) (by omega))) ?_
    refine L.v (o_assign (v := (.int .i64 (1 + (((meanF gx gy xs).length : Nat) : Int)))) rfl) ?_
    refine L.nil ?_
    refine W.seq ?_
    refine W.seq ?_
    refine W.region ?_
    refine L.v (o_move (v := (.int .i64 (1 + (((meanF gx gy xs).length : Nat) : Int)))) rfl) ?_
    refine L.v (o_ilss (a := 1 + (((meanF gx gy xs).length : Nat) : Int)) (b := 0) rfl rfl rfl) ?_
    refine L.nil ?_
    refine W.condF (b := decide ((1 + (((meanF gx gy xs).length : Nat) : Int) : Int) < 0)) rfl (decide_eq_false (by omega)) ?_
    refine W.skip ?_
    refine W.seq ?_
    refine W.seq ?_
    refine W.region ?_
    refine L.v (o_move (v := (.int .i64 (1 + (((meanF gx gy xs).length : Nat) : Int)))) rfl) ?_
    refine L.v (o_move (v := (.int .i64 (1 + (((meanF gx gy xs).length : Nat) : Int)))) rfl) ?_
    refine L.v (o_ineq (a := 1 + (((meanF gx gy xs).length : Nat) : Int)) (b := 1 + (((meanF gx gy xs).length : Nat) : Int)) (c := false) rfl rfl (by simp)) ?_
    refine L.nil ?_
    refine W.condF (b := false) rfl rfl ?_
    refine W.skip ?_
    refine W.seq ?_
    refine W.region ?_
    refine L.v (o_loads (b := b1) (off := 0) (vs := [(.int .i64 gx), (.int .i64 gy)]) Try.isAgg23 Try.sizeOf23 rfl rfl (Rds.of hb108 (by intro j v hj; simpa using hj))) ?_
    refine L.v (v := (.agg #[(.int .i64 gx), (.int .i64 gy)])) (op_call [(.agg #[(.int .i64 gx), (.int .i64 gy)])] Try.call11 rfl (toGrid_c gx gy)) ?_
    refine L.v (o_move (v := (.slice p xs.length c)) rfl) ?_
    refine L.cons (op_call [(.slice p xs.length c)] Try.call12 rfl (toF32S p c xs hs107 (by omega))) ?_
    rintro _ s118 ⟨p116, rfl, fs119⟩
    have ap120 : Apart (xs.length) (xs.length) p116 p := by simpa using Fsl.apart fs119 hs107 (fl_ne _)
    have ne121 := Fsl.ne fs119 hb108
    have ap122 : Apart (xs.length) (xs.length) p116 p11 := by simpa using Fsl.apart fs119 hs109 (fl_ne _)
    have ap123 : Apart (xs.length) ((meanF gx gy xs).length) p116 p21 := by simpa using Fsl.apart fs119 hs111 (fl_ne _)
    have ap124 : Apart (xs.length) (xs.length) p116 p34 := by simpa using Fsl.apart fs119 hs113 (marks32_ne _ _)
    have ap125 : Apart (xs.length) ((meanF gx gy xs).length) p116 p50 := by simpa using Fsl.apart fs119 sl106 (marks32_ne _ _)
    have ap126 : Apart (xs.length) (xs.length) p116 p69 := by simpa using Fsl.apart fs119 hs114 (fl_ne _)
    have hs127 := Sl.ext hs107 fs119.ext
    have hb128 := fs119.ext _ _ hb108
    have hs129 := Sl.ext hs109 fs119.ext
    have mu130 := Mut.ext mu110 fs119.ext
    have hs131 := Sl.ext hs111 fs119.ext
    have mu132 := Mut.ext mu112 fs119.ext
    have hs133 := Sl.ext hs113 fs119.ext
    have hs134 := Sl.ext sl106 fs119.ext
    have hs135 := Sl.ext hs114 fs119.ext
    have mu136 := Mut.ext mu115 fs119.ext
    have mu137 := Fsl.mut fs119 (xs.length) (by simp)
    refine L.cons (op_call [(.agg #[(.int .i64 gx), (.int .i64 gy)]), (.slice p116 xs.length xs.length)] Try.call23 rfl (implMean gx gy p116 xs (Fsl.reads fs119))) ?_
    rintro _ s140 ⟨p138, c139, rfl, fs141⟩
    have ap142 : Apart ((meanF gx gy xs).length) (xs.length) p138 p := by simpa using Fsl.apart fs141 hs127 (fl_ne _)
    have ne143 := Fsl.ne fs141 hb128
    have ap144 : Apart ((meanF gx gy xs).length) (xs.length) p138 p11 := by simpa using Fsl.apart fs141 hs129 (fl_ne _)
    have ap145 : Apart ((meanF gx gy xs).length) ((meanF gx gy xs).length) p138 p21 := by simpa using Fsl.apart fs141 hs131 (fl_ne _)
    have ap146 : Apart ((meanF gx gy xs).length) (xs.length) p138 p34 := by simpa using Fsl.apart fs141 hs133 (marks32_ne _ _)
    have ap147 : Apart ((meanF gx gy xs).length) ((meanF gx gy xs).length) p138 p50 := by simpa using Fsl.apart fs141 hs134 (marks32_ne _ _)
    have ap148 : Apart ((meanF gx gy xs).length) (xs.length) p138 p69 := by simpa using Fsl.apart fs141 hs135 (fl_ne _)
    have ap149 : Apart ((meanF gx gy xs).length) (xs.length) p138 p116 := by simpa using Fsl.apart fs141 (Fsl.reads fs119) (fl_ne _)
    have hs150 := Sl.ext hs127 fs141.ext
    have hb151 := fs141.ext _ _ hb128
    have hs152 := Sl.ext hs129 fs141.ext
    have mu153 := Mut.ext mu130 fs141.ext
    have hs154 := Sl.ext hs131 fs141.ext
    have mu155 := Mut.ext mu132 fs141.ext
    have hs156 := Sl.ext hs133 fs141.ext
    have hs157 := Sl.ext hs134 fs141.ext
    have hs158 := Sl.ext hs135 fs141.ext
    have mu159 := Mut.ext mu136 fs141.ext
    have hs160 := Sl.ext (Fsl.reads fs119) fs141.ext
    have mu161 := Mut.ext mu137 fs141.ext
    have mu162 := Fsl.mut fs141 ((meanF gx gy xs).length) (by simp)
    refine L.v (o_move (v := (.tuple #[(.slice p138 ((meanF gx gy xs).length) c139), (.bool (meanB gx gy xs))])) rfl) ?_
    refine L.v (o_extract (vs := #[(.slice p138 ((meanF gx gy xs).length) c139), (.bool (meanB gx gy xs))]) (v := (.slice p138 ((meanF gx gy xs).length) c139)) rfl rfl rfl) ?_
    refine L.v (o_extract (vs := #[(.slice p138 ((meanF gx gy xs).length) c139), (.bool (meanB gx gy xs))]) (v := (.bool (meanB gx gy xs))) rfl rfl rfl) ?_
    refine L.v (o_assign (v := (.slice p138 ((meanF gx gy xs).length) c139)) rfl) ?_
    refine L.v (o_assign (v := (.bool (meanB gx gy xs))) rfl) ?_
    refine L.nil ?_
    refine W.seq ?_
    refine W.seq ?_
    refine W.region ?_
    refine L.v (o_move (v := (.slice p138 ((meanF gx gy xs).length) c139)) rfl) ?_
    refine L.v (o_move (v := (.slice p21 ((meanF gx gy xs).length) c22)) rfl) ?_
    refine L.v (v := (.bool true)) (op_call [(.slice p138 ((meanF gx gy xs).length) c139), (.slice p21 ((meanF gx gy xs).length) c22)] Try.call14 rfl (eqF32S p138 p21 c139 c22 (meanF gx gy xs) (Fsl.reads fs141) hs154 (by first | omega | exact meanF_le _ _ _))) ?_
    refine L.v (o_not (b := true) (c := false) rfl rfl) ?_
    refine L.v (o_move (v := (.bool false)) rfl) ?_
    refine L.gv (j := 4) (d₁ := 88) (b := false) rfl rfl rfl rfl (o_move (v := (.bool (meanB gx gy xs))) rfl) ?_
    refine L.gv (j := 4) (d₁ := 88) (b := false) rfl rfl rfl rfl (o_move (v := (.bool (meanB gx gy xs))) rfl) ?_
    refine L.gv (j := 4) (d₁ := 88) (b := false) rfl rfl rfl rfl (o_bneq (a := meanB gx gy xs) (b := meanB gx gy xs) (c := false) Try.underlying4 rfl rfl (by simp)) ?_
    refine L.v (o_pickF (b := false) (v := (.bool false)) rfl rfl rfl) ?_
    refine L.nil ?_
    refine W.condF (b := false) rfl rfl ?_
    refine W.skip ?_
    refine W.seq ?_
    refine W.region ?_
    refine L.v (o_assign (v := (.int .i64 1)) rfl) ?_
    refine L.nil ?_
    refine W.seq ?_
    refine W.region ?_
    refine L.v (o_move (v := (.slice p50 ((meanF gx gy xs).length) c51)) rfl) ?_
    refine L.v (o_move (v := (.int .i64 1)) rfl) ?_
    refine L.v (v := (.int .i64 (1 + (((meanF gx gy xs).length : Nat) : Int)))) (op_call [(.slice p50 ((meanF gx gy xs).length) c51), (.int .i64 1)] Try.call16 rfl (heldF p50 ((meanF gx gy xs).length) c51 1 hs157 (by first | omega | exact meanF_le _ _ _) (by omega))) ?_
    refine L.v (o_assign (v := (.int .i64 (1 + (((meanF gx gy xs).length : Nat) : Int)))) rfl) ?_
    refine L.nil ?_
    refine W.seq ?_
    refine W.seq ?_
    refine W.region ?_
    refine L.v (o_move (v := (.int .i64 (1 + (((meanF gx gy xs).length : Nat) : Int)))) rfl) ?_
    refine L.v (o_ilss (a := 1 + (((meanF gx gy xs).length : Nat) : Int)) (b := 0) rfl rfl rfl) ?_
    refine L.nil ?_
    refine W.condF (b := decide ((1 + (((meanF gx gy xs).length : Nat) : Int) : Int) < 0)) rfl (decide_eq_false (by omega)) ?_
    refine W.skip ?_
    refine W.seq ?_
    refine W.seq ?_
    refine W.region ?_
    refine L.v (o_move (v := (.int .i64 (1 + (((meanF gx gy xs).length : Nat) : Int)))) rfl) ?_
    refine L.v (o_move (v := (.int .i64 (1 + (((meanF gx gy xs).length : Nat) : Int)))) rfl) ?_
    refine L.v (o_ineq (a := 1 + (((meanF gx gy xs).length : Nat) : Int)) (b := 1 + (((meanF gx gy xs).length : Nat) : Int)) (c := false) rfl rfl (by simp)) ?_
    refine L.nil ?_
    refine W.condF (b := false) rfl rfl ?_
    refine W.skip ?_
    refine W.seq ?_
    refine W.region ?_
    refine L.v (o_assign (v := (.bool true)) rfl) ?_
    refine L.nil ?_
    refine W.ret ?_
    exact RetK.one _ (.bool true) rfl rfl (Ext.refl _) rfl

end Go.Proofs.Ytpgmpjejfpmnoaa.En
