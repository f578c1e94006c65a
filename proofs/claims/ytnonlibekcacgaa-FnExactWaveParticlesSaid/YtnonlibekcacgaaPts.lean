/- The laws' own helpers over lists of particles. -/
import Derived.Test.YtnonlibekcacgaaRecs
import Derived.Test.YtnonlibekcacgaaRows
namespace Go.Proofs.Ytnonlibekcacgaa.En
open Go
set_option linter.unusedVariables false
set_option maxRecDepth 100000
def pt (x : Nat × Nat × Nat × Nat × Nat × Nat) : List Value := [.complex .f32 x.1 x.2.1, .complex .f32 x.2.2.1 x.2.2.2.1, .float .f32 x.2.2.2.2.1, .float .f32 x.2.2.2.2.2]
theorem pt_all (xs : List (Nat × Nat × Nat × Nat × Nat × Nat)) : ∀ r ∈ xs.map pt, r.length = 4 := by
  intro r hr
  obtain ⟨x, hx, rfl⟩ := List.mem_map.1 hr
  rfl
theorem pt_ne (xs : List (Nat × Nat × Nat × Nat × Nat × Nat)) : ∀ r ∈ xs.map pt, r ≠ [] := by
  intro r hr e
  have h := pt_all xs r hr
  rw [e] at h; cases h
theorem pt_get {xs : List (Nat × Nat × Nat × Nat × Nat × Nat)} {i : Nat} (h : i < xs.length) : (xs.map pt)[i]? = some (pt (xs.getD i (0, 0, 0, 0, 0, 0))) := by simp [h]
def mkpt (k : Int) (n : Nat) : List (Nat × Nat × Nat × Nat × Nat × Nat) := (List.range n).map fun (j : Nat) => (cvt .f64 .f32 (FloatKind.nearest .f64 (k + 4 * (j : Int))), cvt .f64 .f32 4607182418800017408, cvt .f64 .f32 (FloatKind.nearest .f64 (k + 4 * (j : Int) + 1)), cvt .f64 .f32 4607182418800017408, FloatKind.nearest .f32 (k + 4 * (j : Int) + 2), FloatKind.nearest .f32 (k + 4 * (j : Int) + 3))
@[simp] theorem mkpt_len (k : Int) (n : Nat) : (mkpt k n).length = n := by simp [mkpt]
theorem mkpt_get {k : Int} {n i : Nat} (h : i < n) : ((mkpt k n).map pt)[i]? = some [.complex .f32 (cvt .f64 .f32 (FloatKind.nearest .f64 (k + 4 * (i : Int)))) (cvt .f64 .f32 4607182418800017408), .complex .f32 (cvt .f64 .f32 (FloatKind.nearest .f64 (k + 4 * (i : Int) + 1))) (cvt .f64 .f32 4607182418800017408), .float .f32 (FloatKind.nearest .f32 (k + 4 * (i : Int) + 2)), .float .f32 (FloatKind.nearest .f32 (k + 4 * (i : Int) + 3))] := by simp [mkpt, h, pt]
theorem Sl.mkpt {s : Sg} {k : Int} {n i : Nat} {b off : Nat} (h : Sl s 4 (some ⟨b, off, .none⟩) ((En.mkpt k n).map pt)) (hi : i < n) : Rds s b (off + i * 4) [.complex .f32 (cvt .f64 .f32 (FloatKind.nearest .f64 (k + 4 * (i : Int)))) (cvt .f64 .f32 4607182418800017408), .complex .f32 (cvt .f64 .f32 (FloatKind.nearest .f64 (k + 4 * (i : Int) + 1))) (cvt .f64 .f32 4607182418800017408), .float .f32 (FloatKind.nearest .f32 (k + 4 * (i : Int) + 2)), .float .f32 (FloatKind.nearest .f32 (k + 4 * (i : Int) + 3))] := by
  obtain ⟨b', off', hp, hr⟩ := h.get (mkpt_get hi)
  cases hp
  exact hr
theorem eqParticle_c {w0 : World} {σ : Sg} (a0 y0 a1 y1 a2 a3 : Nat) :
    FnV Try.prog w0 58 [(.agg #[(.complex .f32 a0 y0), (.complex .f32 a1 y1), (.float .f32 a2), (.float .f32 a3)]), (.agg #[(.complex .f32 a0 y0), (.complex .f32 a1 y1), (.float .f32 a2), (.float .f32 a3)])] σ (.bool true) := by
  unfold FnV
  refine Fn.of_W 37 Try.func58 rfl Try.ntmps58 rfl ?_
  refine W.seq ?_
  refine W.region ?_
  refine L.cons (o_box (v := (.agg #[(.complex .f32 a0 y0), (.complex .f32 a1 y1), (.float .f32 a2), (.float .f32 a3)])) rfl rfl [(.complex .f32 a0 y0), (.complex .f32 a1 y1), (.float .f32 a2), (.float .f32 a3)] rfl) ?_
  rintro _ _ ⟨b1, hf2, hw3, rfl, rfl⟩
  have hb6 : (sg σ b1 (85, [(.complex .f32 a0 y0), (.complex .f32 a1 y1), (.float .f32 a2), (.float .f32 a3)])) b1 = some (85, [(.complex .f32 a0 y0), (.complex .f32 a1 y1), (.float .f32 a2), (.float .f32 a3)]) := sg_eq _ _ _
  have hx5 : Ext σ (sg σ b1 (85, [(.complex .f32 a0 y0), (.complex .f32 a1 y1), (.float .f32 a2), (.float .f32 a3)])) := (Ext.refl _).sg hf2
  have ehx5 := Ext.trans (Ext.refl _) hx5
  generalize hgs4 : sg σ b1 (85, [(.complex .f32 a0 y0), (.complex .f32 a1 y1), (.float .f32 a2), (.float .f32 a3)]) = s4 at *
  clear hgs4
  refine L.cons (o_box (v := (.agg #[(.complex .f32 a0 y0), (.complex .f32 a1 y1), (.float .f32 a2), (.float .f32 a3)])) rfl rfl [(.complex .f32 a0 y0), (.complex .f32 a1 y1), (.float .f32 a2), (.float .f32 a3)] rfl) ?_
  rintro _ _ ⟨b7, hf8, hw9, rfl, rfl⟩
  have hb12 : (sg s4 b7 (85, [(.complex .f32 a0 y0), (.complex .f32 a1 y1), (.float .f32 a2), (.float .f32 a3)])) b7 = some (85, [(.complex .f32 a0 y0), (.complex .f32 a1 y1), (.float .f32 a2), (.float .f32 a3)]) := sg_eq _ _ _
  have hx11 : Ext s4 (sg s4 b7 (85, [(.complex .f32 a0 y0), (.complex .f32 a1 y1), (.float .f32 a2), (.float .f32 a3)])) := (Ext.refl _).sg hf8
  have hb13 := hx11 _ _ hb6
  have ehx11 := Ext.trans ehx5 hx11
  generalize hgs10 : sg s4 b7 (85, [(.complex .f32 a0 y0), (.complex .f32 a1 y1), (.float .f32 a2), (.float .f32 a3)]) = s10 at *
  clear hgs10
  refine L.v (o_assign (v := (.bool false)) rfl) ?_
  refine L.nil ?_
  refine W.seq ?_
  refine W.seq ?_
  refine W.region ?_
  refine L.v (o_fieldAddr (b := b1) (off := 0) (o := 0) (run_fieldAt (f := 0) (fld := { name := "At", type := 57, offset := 0, embedded := false, tag := "", pkgPath := "", byteOffset := 0 }) Try.underlying85 rfl Try.sizeOf57 (Nat.succ_ne_zero _)) rfl) ?_
  refine L.v (o_load (b := b1) (off := 0 + 0) (v := (.complex .f32 a0 y0)) Try.isAgg57 rfl (Rd.of hb13 rfl) rfl) ?_
  refine L.v (o_cvCC (s := .f32) (d := .f64) (a := a0) (b := y0) (by rw [Try.underlying57]; rfl) Try.underlying61 rfl (okw a0) (okw y0)) ?_
  refine L.v (o_fieldAddr (b := b7) (off := 0) (o := 0) (run_fieldAt (f := 0) (fld := { name := "At", type := 57, offset := 0, embedded := false, tag := "", pkgPath := "", byteOffset := 0 }) Try.underlying85 rfl Try.sizeOf57 (Nat.succ_ne_zero _)) rfl) ?_
  refine L.v (o_load (b := b7) (off := 0 + 0) (v := (.complex .f32 a0 y0)) Try.isAgg57 rfl (Rd.of hb12 rfl) rfl) ?_
  refine L.v (o_cvCC (s := .f32) (d := .f64) (a := a0) (b := y0) (by rw [Try.underlying57]; rfl) Try.underlying61 rfl (okw a0) (okw y0)) ?_
  refine L.v (v := (.bool true)) (op_call [(.complex .f64 (cvt .f32 .f64 a0) (cvt .f32 .f64 y0)), (.complex .f64 (cvt .f32 .f64 a0) (cvt .f32 .f64 y0))] Try.call38 rfl (sameComplex_c (cvt .f32 .f64 a0) (cvt .f32 .f64 y0))) ?_
  refine L.v (o_not (b := true) (c := false) rfl rfl) ?_
  refine L.nil ?_
  refine W.condF (b := false) rfl rfl ?_
  refine W.skip ?_
  refine W.seq ?_
  refine W.seq ?_
  refine W.region ?_
  refine L.v (o_fieldAddr (b := b1) (off := 0) (o := 1) (run_fieldAt (f := 1) (fld := { name := "Speed", type := 57, offset := 1, embedded := false, tag := "", pkgPath := "", byteOffset := 8 }) Try.underlying85 rfl Try.sizeOf57 (Nat.succ_ne_zero _)) rfl) ?_
  refine L.v (o_load (b := b1) (off := 0 + 1) (v := (.complex .f32 a1 y1)) Try.isAgg57 rfl (Rd.of hb13 rfl) rfl) ?_
  refine L.v (o_cvCC (s := .f32) (d := .f64) (a := a1) (b := y1) (by rw [Try.underlying57]; rfl) Try.underlying61 rfl (okw a1) (okw y1)) ?_
  refine L.v (o_fieldAddr (b := b7) (off := 0) (o := 1) (run_fieldAt (f := 1) (fld := { name := "Speed", type := 57, offset := 1, embedded := false, tag := "", pkgPath := "", byteOffset := 8 }) Try.underlying85 rfl Try.sizeOf57 (Nat.succ_ne_zero _)) rfl) ?_
  refine L.v (o_load (b := b7) (off := 0 + 1) (v := (.complex .f32 a1 y1)) Try.isAgg57 rfl (Rd.of hb12 rfl) rfl) ?_
  refine L.v (o_cvCC (s := .f32) (d := .f64) (a := a1) (b := y1) (by rw [Try.underlying57]; rfl) Try.underlying61 rfl (okw a1) (okw y1)) ?_
  refine L.v (v := (.bool true)) (op_call [(.complex .f64 (cvt .f32 .f64 a1) (cvt .f32 .f64 y1)), (.complex .f64 (cvt .f32 .f64 a1) (cvt .f32 .f64 y1))] Try.call38 rfl (sameComplex_c (cvt .f32 .f64 a1) (cvt .f32 .f64 y1))) ?_
  refine L.v (o_not (b := true) (c := false) rfl rfl) ?_
  refine L.nil ?_
  refine W.condF (b := false) rfl rfl ?_
  refine W.skip ?_
  refine W.seq ?_
  refine W.seq ?_
  refine W.region ?_
  refine L.v (o_fieldAddr (b := b1) (off := 0) (o := 2) (run_fieldAt (f := 2) (fld := { name := "Charge", type := 24, offset := 2, embedded := false, tag := "", pkgPath := "", byteOffset := 16 }) Try.underlying85 rfl Try.sizeOf24 (Nat.succ_ne_zero _)) rfl) ?_
  refine L.v (o_load (b := b1) (off := 0 + 2) (v := (.float .f32 a2)) Try.isAgg24 rfl (Rd.of hb13 rfl) rfl) ?_
  refine L.v (o_cvFF (s := .f32) (d := .f64) (a := a2) (by rw [Try.underlying24]; rfl) Try.underlying30 rfl (okw a2)) ?_
  refine L.v (o_fieldAddr (b := b7) (off := 0) (o := 2) (run_fieldAt (f := 2) (fld := { name := "Charge", type := 24, offset := 2, embedded := false, tag := "", pkgPath := "", byteOffset := 16 }) Try.underlying85 rfl Try.sizeOf24 (Nat.succ_ne_zero _)) rfl) ?_
  refine L.v (o_load (b := b7) (off := 0 + 2) (v := (.float .f32 a2)) Try.isAgg24 rfl (Rd.of hb12 rfl) rfl) ?_
  refine L.v (o_cvFF (s := .f32) (d := .f64) (a := a2) (by rw [Try.underlying24]; rfl) Try.underlying30 rfl (okw a2)) ?_
  refine L.v (v := (.bool true)) (op_call [(.float .f64 (cvt .f32 .f64 a2)), (.float .f64 (cvt .f32 .f64 a2))] Try.call14 rfl (sameFloat_c (cvt .f32 .f64 a2))) ?_
  refine L.v (o_not (b := true) (c := false) rfl rfl) ?_
  refine L.nil ?_
  refine W.condF (b := false) rfl rfl ?_
  refine W.skip ?_
  refine W.seq ?_
  refine W.seq ?_
  refine W.region ?_
  refine L.v (o_fieldAddr (b := b1) (off := 0) (o := 3) (run_fieldAt (f := 3) (fld := { name := "Mass", type := 24, offset := 3, embedded := false, tag := "", pkgPath := "", byteOffset := 20 }) Try.underlying85 rfl Try.sizeOf24 (Nat.succ_ne_zero _)) rfl) ?_
  refine L.v (o_load (b := b1) (off := 0 + 3) (v := (.float .f32 a3)) Try.isAgg24 rfl (Rd.of hb13 rfl) rfl) ?_
  refine L.v (o_cvFF (s := .f32) (d := .f64) (a := a3) (by rw [Try.underlying24]; rfl) Try.underlying30 rfl (okw a3)) ?_
  refine L.v (o_fieldAddr (b := b7) (off := 0) (o := 3) (run_fieldAt (f := 3) (fld := { name := "Mass", type := 24, offset := 3, embedded := false, tag := "", pkgPath := "", byteOffset := 20 }) Try.underlying85 rfl Try.sizeOf24 (Nat.succ_ne_zero _)) rfl) ?_
  refine L.v (o_load (b := b7) (off := 0 + 3) (v := (.float .f32 a3)) Try.isAgg24 rfl (Rd.of hb12 rfl) rfl) ?_
  refine L.v (o_cvFF (s := .f32) (d := .f64) (a := a3) (by rw [Try.underlying24]; rfl) Try.underlying30 rfl (okw a3)) ?_
  refine L.v (v := (.bool true)) (op_call [(.float .f64 (cvt .f32 .f64 a3)), (.float .f64 (cvt .f32 .f64 a3))] Try.call14 rfl (sameFloat_c (cvt .f32 .f64 a3))) ?_
  refine L.v (o_not (b := true) (c := false) rfl rfl) ?_
  refine L.nil ?_
  refine W.condF (b := false) rfl rfl ?_
  refine W.skip ?_
  refine W.seq ?_
  refine W.region ?_
  refine L.v (o_assign (v := (.bool true)) rfl) ?_
  refine L.nil ?_
  refine W.ret ?_
  exact RetK.one σ (.bool true) rfl rfl ehx11 ⟨rfl, rfl⟩

theorem eqpt {w0 : World} {σ : Sg} (p q : Option Addr) (c d : Nat) (xs : List (Nat × Nat × Nat × Nat × Nat × Nat)) (hs : Sl σ 4 p (xs.map pt)) (hq : Sl σ 4 q (xs.map pt)) (hn : xs.length ≤ 1048576) :
    FnV Try.prog w0 27 [(.slice p xs.length c), (.slice q xs.length d)] σ (.bool true) := by
  unfold FnV
  refine Fn.of_W 27 Try.func27 rfl Try.ntmps27 rfl ?_
  refine W.seq ?_
  refine W.region ?_
  refine L.v (o_assign (v := (.bool false)) rfl) ?_
  refine L.nil ?_
  refine W.seq ?_
  refine W.seq ?_
  refine W.region ?_
  refine L.v (o_move (v := (.slice p xs.length c)) rfl) ?_
  refine L.v (o_len (p := p) (n := xs.length) (c := c) Try.underlying44 rfl) ?_
  refine L.v (o_move (v := (.slice q xs.length d)) rfl) ?_
  refine L.v (o_len (p := q) (n := xs.length) (c := d) Try.underlying44 rfl) ?_
  refine L.v (o_ineq (a := (xs.length : Int)) (b := (xs.length : Int)) (c := false) rfl rfl (by simp)) ?_
  refine L.nil ?_
  refine W.condF (b := false) rfl rfl ?_
  refine W.skip ?_
  refine W.seq ?_
  refine W.seq ?_
  refine W.region ?_
  refine L.v (o_assign (v := (.int .i64 0)) rfl) ?_
  refine L.nil ?_
  refine W.block ?_
  refine W.loop (fun nn tt ss => ∃ (i : Nat), nn = xs.length - i ∧ (i ≤ xs.length) ∧ FrOk tt [(0, (.slice p xs.length c)), (1, (.slice q xs.length d)), (5, (.int .i64 (i : Int)))] ∧ σ = ss) _ ⟨0, rfl, (by omega), ⟨rfl, rfl, rfl, trivial⟩, rfl⟩ ?_
  rintro _ t1 _ ⟨i, rfl, hi, f2, rfl⟩
  rw [← frame_ok f2]
  show W _ _ _ _ _ (upd (upd (upd t1 0 (.slice p xs.length c)) 1 (.slice q xs.length d)) 5 (.int .i64 (i : Int))) _
  refine W.seq ?_
  refine W.seq ?_
  refine W.region ?_
  refine L.v (o_move (v := (.int .i64 (i : Int))) rfl) ?_
  refine L.v (o_move (v := (.slice p xs.length c)) rfl) ?_
  refine L.v (o_len (p := p) (n := xs.length) (c := c) Try.underlying44 rfl) ?_
  refine L.v (o_ilss (a := (i : Int)) (b := (xs.length : Int)) rfl rfl rfl) ?_
  refine L.nil ?_
  refine W.cond (b := decide (((i : Int) : Int) < (xs.length : Int))) rfl (fun q3 => ?_) (fun q3 => ?_)
  ·
    have a4 : ((i : Int) : Int) < (xs.length : Int) := of_decide_eq_true q3
    refine W.skip ?_
    refine W.seq ?_
    refine W.block ?_
    refine W.seq ?_
    obtain ⟨b5, o6, rfl, _⟩ := hs.elem i (by omega) (0, 0, 0, 0, 0, 0)
    obtain ⟨b7, o8, rfl, _⟩ := hq.elem i (by omega) (0, 0, 0, 0, 0, 0)
    refine W.draw [true, true, true, true, true, true, true, true, true, true] (fun s => Ext σ s) (by kernel_rfl) (by kernel_rfl) ?_
    refine DL.v (fun _ hD => o_move (v := (.slice (some ⟨b5, o6, none⟩) xs.length c)) rfl) ?_
    refine DL.v (fun _ hD => o_move (v := (.int .i64 (i : Int))) rfl) ?_
    refine DL.v (fun _ hD => o_indexAddr (b := b5) (off := o6) (n := xs.length) (c := c) i Try.underlying44 Try.sizeOf85 rfl rfl (by omega)) ?_
    refine DL.v (fun _ hD => o_loads (b := b5) (off := o6 + i * 4) (vs := [(.complex .f32 ((xs.getD i (0, 0, 0, 0, 0, 0)).1) ((xs.getD i (0, 0, 0, 0, 0, 0)).2.1)), (.complex .f32 ((xs.getD i (0, 0, 0, 0, 0, 0)).2.2.1) ((xs.getD i (0, 0, 0, 0, 0, 0)).2.2.2.1)), (.float .f32 ((xs.getD i (0, 0, 0, 0, 0, 0)).2.2.2.2.1)), (.float .f32 ((xs.getD i (0, 0, 0, 0, 0, 0)).2.2.2.2.2))]) Try.isAgg85 Try.sizeOf85 rfl rfl (Sl.at (Sl.ext hs hD) i (by omega) (0, 0, 0, 0, 0, 0))) ?_
    refine DL.v (fun _ hD => o_move (v := (.slice (some ⟨b7, o8, none⟩) xs.length d)) rfl) ?_
    refine DL.v (fun _ hD => o_move (v := (.int .i64 (i : Int))) rfl) ?_
    refine DL.v (fun _ hD => o_indexAddr (b := b7) (off := o8) (n := xs.length) (c := d) i Try.underlying44 Try.sizeOf85 rfl rfl (by omega)) ?_
    refine DL.v (fun _ hD => o_loads (b := b7) (off := o8 + i * 4) (vs := [(.complex .f32 ((xs.getD i (0, 0, 0, 0, 0, 0)).1) ((xs.getD i (0, 0, 0, 0, 0, 0)).2.1)), (.complex .f32 ((xs.getD i (0, 0, 0, 0, 0, 0)).2.2.1) ((xs.getD i (0, 0, 0, 0, 0, 0)).2.2.2.1)), (.float .f32 ((xs.getD i (0, 0, 0, 0, 0, 0)).2.2.2.2.1)), (.float .f32 ((xs.getD i (0, 0, 0, 0, 0, 0)).2.2.2.2.2))]) Try.isAgg85 Try.sizeOf85 rfl rfl (Sl.at (Sl.ext hq hD) i (by omega) (0, 0, 0, 0, 0, 0))) ?_
    refine DL.v (v := (.bool true)) (fun _ hD => op_call [(.agg #[(.complex .f32 ((xs.getD i (0, 0, 0, 0, 0, 0)).1) ((xs.getD i (0, 0, 0, 0, 0, 0)).2.1)), (.complex .f32 ((xs.getD i (0, 0, 0, 0, 0, 0)).2.2.1) ((xs.getD i (0, 0, 0, 0, 0, 0)).2.2.2.1)), (.float .f32 ((xs.getD i (0, 0, 0, 0, 0, 0)).2.2.2.2.1)), (.float .f32 ((xs.getD i (0, 0, 0, 0, 0, 0)).2.2.2.2.2))]), (.agg #[(.complex .f32 ((xs.getD i (0, 0, 0, 0, 0, 0)).1) ((xs.getD i (0, 0, 0, 0, 0, 0)).2.1)), (.complex .f32 ((xs.getD i (0, 0, 0, 0, 0, 0)).2.2.1) ((xs.getD i (0, 0, 0, 0, 0, 0)).2.2.2.1)), (.float .f32 ((xs.getD i (0, 0, 0, 0, 0, 0)).2.2.2.2.1)), (.float .f32 ((xs.getD i (0, 0, 0, 0, 0, 0)).2.2.2.2.2))])] Try.call58 rfl (eqParticle_c ((xs.getD i (0, 0, 0, 0, 0, 0)).1) ((xs.getD i (0, 0, 0, 0, 0, 0)).2.1) ((xs.getD i (0, 0, 0, 0, 0, 0)).2.2.1) ((xs.getD i (0, 0, 0, 0, 0, 0)).2.2.2.1) ((xs.getD i (0, 0, 0, 0, 0, 0)).2.2.2.2.1) ((xs.getD i (0, 0, 0, 0, 0, 0)).2.2.2.2.2))) ?_
    refine DL.v (fun _ hD => o_not (b := true) (c := false) rfl rfl) ?_
    refine DL.nil (Ext.refl _) ?_
    refine W.condF (b := false) rfl rfl ?_
    refine W.skip ?_
    refine W.region ?_
    refine L.v (o_move (v := (.int .i64 (i : Int))) rfl) ?_
    refine L.v (o_iadd (a := (i : Int)) (b := 1) (c := ((i + 1 : Nat) : Int)) rfl rfl (by rw [IntWalk.i64_in _ (by omega)]; try omega)) ?_
    refine L.v (o_assign (v := (.int .i64 (((i + 1 : Nat) : Int)))) rfl) ?_
    refine L.nil ?_
    exact ⟨_, (by omega), i + 1, rfl, (by omega), ⟨rfl, rfl, rfl, trivial⟩, rfl⟩
  ·
    have a9 : ¬ (((i : Int) : Int) < (xs.length : Int)) := of_decide_eq_false q3
    refine W.exit ?_
    refine W.seq ?_
    refine W.region ?_
    refine L.v (o_assign (v := (.bool true)) rfl) ?_
    refine L.nil ?_
    refine W.ret ?_
    exact RetK.one σ (.bool true) rfl rfl (Ext.refl _) ⟨by first | rfl | (exfalso; omega) | (exact absurd rfl (by assumption)), rfl⟩

theorem markptB {w0 : World} {σ : Sg} (b e n c : Nat) (cs0 : List Value) (k : Int) (hb : σ b = some (e, cs0)) (hw : w0.heap.size ≤ b) (hn : n * 4 ≤ cs0.length) (hm : n ≤ 1048576) (hk : 0 ≤ k ∧ k ≤ 1099511627776) :
    Fn Try.prog w0 28 [(.slice (some ⟨b, 0, none⟩) n c), (.int .i64 k)] σ (fun u s => u = .int .i64 (k + 4 * (n : Int)) ∧ ∃ cs, s = sg σ b (e, cs) ∧ FillR ((mkpt k n).map pt) 4 cs ((mkpt k n).map pt).length) := by
  refine Fn.of_W 49 Try.func28 rfl Try.ntmps28 rfl ?_
  refine W.seq ?_
  refine W.region ?_
  refine L.v (o_assign (v := (.int .i64 0)) rfl) ?_
  refine L.nil ?_
  refine W.seq ?_
  refine W.seq ?_
  refine W.region ?_
  refine L.v (o_assign (v := (.int .i64 0)) rfl) ?_
  refine L.nil ?_
  refine W.block ?_
  refine W.loop (fun nn tt ss => ∃ (i : Nat), ∃ (cs : List Value), nn = n - i ∧ (i ≤ n) ∧ (FillR ((mkpt k n).map pt) 4 cs i) ∧ FrOk tt [(0, (.slice (some ⟨b, 0, none⟩) n c)), (1, (.int .i64 (k + 4 * (i : Int)))), (5, (.int .i64 (i : Int)))] ∧ sg σ b (e, cs) = ss) _ ⟨0, cs0, rfl, (by omega), (FillR.zero (by rw [List.length_map, mkpt_len]; omega)), ⟨rfl, (by show Value.int .i64 k = _; simp), rfl, trivial⟩, sg_same hb⟩ ?_
  rintro _ t1 _ ⟨i, cs, rfl, hi, hfl, f2, rfl⟩
  rw [← frame_ok f2]
  show W _ _ _ _ _ (upd (upd (upd t1 0 (.slice (some ⟨b, 0, none⟩) n c)) 1 (.int .i64 (k + 4 * (i : Int)))) 5 (.int .i64 (i : Int))) _
  refine W.seq ?_
  refine W.seq ?_
  refine W.region ?_
  refine L.v (o_move (v := (.int .i64 (i : Int))) rfl) ?_
  refine L.v (o_move (v := (.slice (some ⟨b, 0, none⟩) n c)) rfl) ?_
  refine L.v (o_len (p := (some ⟨b, 0, none⟩)) (n := n) (c := c) Try.underlying44 rfl) ?_
  refine L.v (o_ilss (a := (i : Int)) (b := (n : Int)) rfl rfl rfl) ?_
  refine L.nil ?_
  refine W.cond (b := decide (((i : Int) : Int) < (n : Int))) rfl (fun q3 => ?_) (fun q3 => ?_)
  ·
    have a4 : ((i : Int) : Int) < (n : Int) := of_decide_eq_true q3
    refine W.skip ?_
    refine W.seq ?_
    refine W.block ?_
    refine W.seq ?_
    refine W.region ?_
    refine L.v (o_move (v := (.slice (some ⟨b, 0, none⟩) n c)) rfl) ?_
    refine L.v (o_move (v := (.int .i64 (i : Int))) rfl) ?_
    refine L.v (o_move (v := (.int .i64 (k + 4 * (i : Int)))) rfl) ?_
    refine L.v (o_cvIF (a := k + 4 * (i : Int)) (by rw [Try.underlying3]; rfl) Try.underlying30 rfl) ?_
    refine L.v (o_complex (k := .f64) (a := FloatKind.nearest .f64 (k + 4 * (i : Int))) (b := 4607182418800017408) rfl rfl) ?_
    refine L.v (o_cvCC (s := .f64) (d := .f32) (a := FloatKind.nearest .f64 (k + 4 * (i : Int))) (b := 4607182418800017408) (by rw [Try.underlying61]; rfl) Try.underlying57 rfl (mark_ok (by omega)) (by decide +kernel)) ?_
    refine L.v (o_indexAddr (b := b) (off := 0) (n := n) (c := c) i Try.underlying44 Try.sizeOf85 rfl rfl (by omega)) ?_
    refine L.v (o_fieldAddr (b := b) (off := 0 + i * 4) (o := 0) (run_fieldAt (f := 0) (fld := { name := "At", type := 57, offset := 0, embedded := false, tag := "", pkgPath := "", byteOffset := 0 }) Try.underlying85 rfl Try.sizeOf57 (Nat.succ_ne_zero _)) rfl) ?_
    refine L.cons0 (o_store (b := b) (off := 0 + i * 4 + 0) (v := (.complex .f32 (cvt .f64 .f32 (FloatKind.nearest .f64 (k + 4 * (i : Int)))) (cvt .f64 .f32 4607182418800017408))) Try.sizeOf57 rfl rfl rfl (sg_eq _ _ _) (by have := hfl.1; rw [List.length_map, mkpt_len] at this; (try simp only [List.length_set]); omega) hw) ?_
    rintro _ _ ⟨rfl, rfl⟩
    rw [sg_sg, show 0 + i * 4 + 0 = i * 4 by omega]
    refine L.nil ?_
    refine W.seq ?_
    refine W.region ?_
    refine L.v (o_move (v := (.int .i64 (k + 4 * (i : Int)))) rfl) ?_
    refine L.v (o_iadd (a := k + 4 * (i : Int)) (b := 1) (c := k + 4 * (i : Int) + 1) rfl rfl (by rw [IntWalk.i64_in _ (by omega)]; try (push_cast; omega))) ?_
    refine L.v (o_assign (v := (.int .i64 (k + 4 * (i : Int) + 1))) rfl) ?_
    refine L.nil ?_
    refine W.seq ?_
    refine W.region ?_
    refine L.v (o_move (v := (.slice (some ⟨b, 0, none⟩) n c)) rfl) ?_
    refine L.v (o_move (v := (.int .i64 (i : Int))) rfl) ?_
    refine L.v (o_move (v := (.int .i64 (k + 4 * (i : Int) + 1))) rfl) ?_
    refine L.v (o_cvIF (a := k + 4 * (i : Int) + 1) (by rw [Try.underlying3]; rfl) Try.underlying30 rfl) ?_
    refine L.v (o_complex (k := .f64) (a := FloatKind.nearest .f64 (k + 4 * (i : Int) + 1)) (b := 4607182418800017408) rfl rfl) ?_
    refine L.v (o_cvCC (s := .f64) (d := .f32) (a := FloatKind.nearest .f64 (k + 4 * (i : Int) + 1)) (b := 4607182418800017408) (by rw [Try.underlying61]; rfl) Try.underlying57 rfl (mark_ok (by omega)) (by decide +kernel)) ?_
    refine L.v (o_indexAddr (b := b) (off := 0) (n := n) (c := c) i Try.underlying44 Try.sizeOf85 rfl rfl (by omega)) ?_
    refine L.v (o_fieldAddr (b := b) (off := 0 + i * 4) (o := 1) (run_fieldAt (f := 1) (fld := { name := "Speed", type := 57, offset := 1, embedded := false, tag := "", pkgPath := "", byteOffset := 8 }) Try.underlying85 rfl Try.sizeOf57 (Nat.succ_ne_zero _)) rfl) ?_
    refine L.cons0 (o_store (b := b) (off := 0 + i * 4 + 1) (v := (.complex .f32 (cvt .f64 .f32 (FloatKind.nearest .f64 (k + 4 * (i : Int) + 1))) (cvt .f64 .f32 4607182418800017408))) Try.sizeOf57 rfl rfl rfl (sg_eq _ _ _) (by have := hfl.1; rw [List.length_map, mkpt_len] at this; (try simp only [List.length_set]); omega) hw) ?_
    rintro _ _ ⟨rfl, rfl⟩
    rw [sg_sg, show 0 + i * 4 + 1 = i * 4 + 1 by omega]
    refine L.nil ?_
    refine W.seq ?_
    refine W.region ?_
    refine L.v (o_move (v := (.int .i64 (k + 4 * (i : Int) + 1))) rfl) ?_
    refine L.v (o_iadd (a := k + 4 * (i : Int) + 1) (b := 1) (c := k + 4 * (i : Int) + 2) rfl rfl (by rw [IntWalk.i64_in _ (by omega)]; try (push_cast; omega))) ?_
    refine L.v (o_assign (v := (.int .i64 (k + 4 * (i : Int) + 2))) rfl) ?_
    refine L.nil ?_
    refine W.seq ?_
    refine W.region ?_
    refine L.v (o_move (v := (.slice (some ⟨b, 0, none⟩) n c)) rfl) ?_
    refine L.v (o_move (v := (.int .i64 (i : Int))) rfl) ?_
    refine L.v (o_move (v := (.int .i64 (k + 4 * (i : Int) + 2))) rfl) ?_
    refine L.v (o_cvIF (a := k + 4 * (i : Int) + 2) (by rw [Try.underlying3]; rfl) Try.underlying24 rfl) ?_
    refine L.v (o_indexAddr (b := b) (off := 0) (n := n) (c := c) i Try.underlying44 Try.sizeOf85 rfl rfl (by omega)) ?_
    refine L.v (o_fieldAddr (b := b) (off := 0 + i * 4) (o := 2) (run_fieldAt (f := 2) (fld := { name := "Charge", type := 24, offset := 2, embedded := false, tag := "", pkgPath := "", byteOffset := 16 }) Try.underlying85 rfl Try.sizeOf24 (Nat.succ_ne_zero _)) rfl) ?_
    refine L.cons0 (o_store (b := b) (off := 0 + i * 4 + 2) (v := (.float .f32 (FloatKind.nearest .f32 (k + 4 * (i : Int) + 2)))) Try.sizeOf24 rfl rfl rfl (sg_eq _ _ _) (by have := hfl.1; rw [List.length_map, mkpt_len] at this; (try simp only [List.length_set]); omega) hw) ?_
    rintro _ _ ⟨rfl, rfl⟩
    rw [sg_sg, show 0 + i * 4 + 2 = i * 4 + 2 by omega]
    refine L.nil ?_
    refine W.seq ?_
    refine W.region ?_
    refine L.v (o_move (v := (.int .i64 (k + 4 * (i : Int) + 2))) rfl) ?_
    refine L.v (o_iadd (a := k + 4 * (i : Int) + 2) (b := 1) (c := k + 4 * (i : Int) + 3) rfl rfl (by rw [IntWalk.i64_in _ (by omega)]; try (push_cast; omega))) ?_
    refine L.v (o_assign (v := (.int .i64 (k + 4 * (i : Int) + 3))) rfl) ?_
    refine L.nil ?_
    refine W.seq ?_
    refine W.region ?_
    refine L.v (o_move (v := (.slice (some ⟨b, 0, none⟩) n c)) rfl) ?_
    refine L.v (o_move (v := (.int .i64 (i : Int))) rfl) ?_
    refine L.v (o_move (v := (.int .i64 (k + 4 * (i : Int) + 3))) rfl) ?_
    refine L.v (o_cvIF (a := k + 4 * (i : Int) + 3) (by rw [Try.underlying3]; rfl) Try.underlying24 rfl) ?_
    refine L.v (o_indexAddr (b := b) (off := 0) (n := n) (c := c) i Try.underlying44 Try.sizeOf85 rfl rfl (by omega)) ?_
    refine L.v (o_fieldAddr (b := b) (off := 0 + i * 4) (o := 3) (run_fieldAt (f := 3) (fld := { name := "Mass", type := 24, offset := 3, embedded := false, tag := "", pkgPath := "", byteOffset := 20 }) Try.underlying85 rfl Try.sizeOf24 (Nat.succ_ne_zero _)) rfl) ?_
    refine L.cons0 (o_store (b := b) (off := 0 + i * 4 + 3) (v := (.float .f32 (FloatKind.nearest .f32 (k + 4 * (i : Int) + 3)))) Try.sizeOf24 rfl rfl rfl (sg_eq _ _ _) (by have := hfl.1; rw [List.length_map, mkpt_len] at this; (try simp only [List.length_set]); omega) hw) ?_
    rintro _ _ ⟨rfl, rfl⟩
    rw [sg_sg, show 0 + i * 4 + 3 = i * 4 + 3 by omega]
    refine L.nil ?_
    refine W.region ?_
    refine L.v (o_move (v := (.int .i64 (k + 4 * (i : Int) + 3))) rfl) ?_
    refine L.v (o_iadd (a := k + 4 * (i : Int) + 3) (b := 1) (c := k + 4 * ((i + 1 : Nat) : Int)) rfl rfl (by rw [IntWalk.i64_in _ (by omega)]; try (push_cast; omega))) ?_
    refine L.v (o_assign (v := (.int .i64 (k + 4 * ((i + 1 : Nat) : Int)))) rfl) ?_
    refine L.nil ?_
    refine W.region ?_
    refine L.v (o_move (v := (.int .i64 (i : Int))) rfl) ?_
    refine L.v (o_iadd (a := (i : Int)) (b := 1) (c := ((i + 1 : Nat) : Int)) rfl rfl (by rw [IntWalk.i64_in _ (by omega)]; try (push_cast; omega))) ?_
    refine L.v (o_assign (v := (.int .i64 (((i + 1 : Nat) : Int)))) rfl) ?_
    refine L.nil ?_
    exact ⟨_, (by omega), i + 1, ((((cs).set (i * 4) (.complex .f32 (cvt .f64 .f32 (FloatKind.nearest .f64 (k + 4 * (i : Int)))) (cvt .f64 .f32 4607182418800017408))).set (i * 4 + 1) (.complex .f32 (cvt .f64 .f32 (FloatKind.nearest .f64 (k + 4 * (i : Int) + 1))) (cvt .f64 .f32 4607182418800017408))).set (i * 4 + 2) (.float .f32 (FloatKind.nearest .f32 (k + 4 * (i : Int) + 2)))).set (i * 4 + 3) (.float .f32 (FloatKind.nearest .f32 (k + 4 * (i : Int) + 3))), rfl, (by omega), (FillR.step hfl (mkpt_get (by omega)) (pt_all _)), ⟨rfl, rfl, rfl, trivial⟩, rfl⟩
  ·
    have a5 : ¬ (((i : Int) : Int) < (n : Int)) := of_decide_eq_false q3
    refine W.exit ?_
    refine W.seq ?_
    refine W.region ?_
    refine L.v (o_move (v := (.int .i64 (k + 4 * (i : Int)))) rfl) ?_
    refine L.v (o_assign (v := (.int .i64 (k + 4 * (i : Int)))) rfl) ?_
    refine L.nil ?_
    refine W.ret ?_
    obtain rfl : i = n := by omega
    exact RetK.one _ (.int .i64 (k + 4 * (i : Int))) rfl rfl (Ext.refl _) ⟨rfl, cs, rfl, by rw [List.length_map, mkpt_len]; exact hfl⟩

theorem markptE {w0 : World} {σ : Sg} (p : Option Addr) (c : Nat) (k : Int) :
    Fn Try.prog w0 28 [(.slice p 0 c), (.int .i64 k)] σ (fun u s => u = .int .i64 (k + 4 * ((0 : Nat) : Int)) ∧ s = σ) := by
  refine Fn.of_W 49 Try.func28 rfl Try.ntmps28 rfl ?_
  refine W.seq ?_
  refine W.region ?_
  refine L.v (o_assign (v := (.int .i64 0)) rfl) ?_
  refine L.nil ?_
  refine W.seq ?_
  refine W.seq ?_
  refine W.region ?_
  refine L.v (o_assign (v := (.int .i64 0)) rfl) ?_
  refine L.nil ?_
  refine W.block ?_
  refine W.loop (fun nn tt ss => ∃ (i : Nat), nn = 0 ∧ (i = 0) ∧ FrOk tt [(0, (.slice p 0 c)), (1, (.int .i64 k)), (5, (.int .i64 (i : Int)))] ∧ σ = ss) _ ⟨0, rfl, (by omega), ⟨rfl, rfl, rfl, trivial⟩, rfl⟩ ?_
  rintro _ t1 _ ⟨i, rfl, hi, f2, rfl⟩
  rw [← frame_ok f2]
  show W _ _ _ _ _ (upd (upd (upd t1 0 (.slice p 0 c)) 1 (.int .i64 k)) 5 (.int .i64 (i : Int))) _
  refine W.seq ?_
  refine W.seq ?_
  refine W.region ?_
  refine L.v (o_move (v := (.int .i64 (i : Int))) rfl) ?_
  refine L.v (o_move (v := (.slice p 0 c)) rfl) ?_
  refine L.v (o_len (p := p) (n := 0) (c := c) Try.underlying44 rfl) ?_
  refine L.v (o_ilss (a := (i : Int)) (b := 0) rfl rfl rfl) ?_
  refine L.nil ?_
  refine W.cond (b := decide (((i : Int) : Int) < 0)) rfl (fun q3 => ?_) (fun q3 => ?_)
  ·
    have a4 : ((i : Int) : Int) < 0 := of_decide_eq_true q3
    exact absurd (of_decide_eq_true q3) (by omega)
  ·
    have a5 : ¬ (((i : Int) : Int) < 0) := of_decide_eq_false q3
    refine W.exit ?_
    refine W.seq ?_
    refine W.region ?_
    refine L.v (o_move (v := (.int .i64 k)) rfl) ?_
    refine L.v (o_assign (v := (.int .i64 k)) rfl) ?_
    refine L.nil ?_
    refine W.ret ?_
    exact RetK.one _ (.int .i64 k) rfl rfl (Ext.refl _) ⟨by simp, rfl⟩

theorem markpt {w0 : World} {σ : Sg} (p : Option Addr) (n c : Nat) (k : Int) (ho : Mut w0 σ (n * 4) p) (hm : n ≤ 1048576) (hk : 0 ≤ k ∧ k ≤ 1099511627776) :
    Fn Try.prog w0 28 [.slice p n c, .int .i64 k] σ (fun u s => u = .int .i64 (k + 4 * (n : Int)) ∧ Mkd σ s n p ∧ Sl s 4 p ((mkpt k n).map pt)) := by
  by_cases h0 : n = 0
  · subst h0
    exact (markptE p c k).mono fun u s ⟨h1, h2⟩ => ⟨h1, .inl ⟨rfl, h2⟩, .inl rfl⟩
  · rcases ho with ho | ⟨b, e, cs, rfl, hw, hb, hl⟩
    · exact absurd ho (by omega)
    · refine (markptB b e n c cs k hb hw hl hm hk).mono fun u s ⟨h1, cs', h2, h3⟩ => ⟨h1, .inr ⟨h0, b, rfl, ?_⟩, ?_⟩
      · rw [h2]; exact But.sg
      · exact FillR.sl h3 (by rw [h2]; exact sg_eq _ _ _)

theorem heldpt {w0 : World} {σ : Sg} (p : Option Addr) (n c : Nat) (k : Int) (hs : Sl σ 4 p ((mkpt k n).map pt)) (hm : n ≤ 1048576) (hk : 0 ≤ k ∧ k ≤ 1099511627776) :
    FnV Try.prog w0 29 [(.slice p n c), (.int .i64 k)] σ (.int .i64 (k + 4 * (n : Int))) := by
  unfold FnV
  refine Fn.of_W 57 Try.func29 rfl Try.ntmps29 rfl ?_
  refine W.seq ?_
  refine W.region ?_
  refine L.v (o_assign (v := (.int .i64 0)) rfl) ?_
  refine L.nil ?_
  refine W.seq ?_
  refine W.seq ?_
  refine W.region ?_
  refine L.v (o_assign (v := (.int .i64 0)) rfl) ?_
  refine L.nil ?_
  refine W.block ?_
  refine W.loop (fun nn tt ss => ∃ (i : Nat), nn = n - i ∧ (i ≤ n) ∧ FrOk tt [(0, (.slice p n c)), (1, (.int .i64 (k + 4 * (i : Int)))), (5, (.int .i64 (i : Int)))] ∧ σ = ss) _ ⟨0, rfl, (by omega), ⟨rfl, (by show Value.int .i64 k = _; simp), rfl, trivial⟩, rfl⟩ ?_
  rintro _ t1 _ ⟨i, rfl, hi, f2, rfl⟩
  rw [← frame_ok f2]
  show W _ _ _ _ _ (upd (upd (upd t1 0 (.slice p n c)) 1 (.int .i64 (k + 4 * (i : Int)))) 5 (.int .i64 (i : Int))) _
  refine W.seq ?_
  refine W.seq ?_
  refine W.region ?_
  refine L.v (o_move (v := (.int .i64 (i : Int))) rfl) ?_
  refine L.v (o_move (v := (.slice p n c)) rfl) ?_
  refine L.v (o_len (p := p) (n := n) (c := c) Try.underlying44 rfl) ?_
  refine L.v (o_ilss (a := (i : Int)) (b := (n : Int)) rfl rfl rfl) ?_
  refine L.nil ?_
  refine W.cond (b := decide (((i : Int) : Int) < (n : Int))) rfl (fun q3 => ?_) (fun q3 => ?_)
  ·
    have a4 : ((i : Int) : Int) < (n : Int) := of_decide_eq_true q3
    refine W.skip ?_
    refine W.seq ?_
    refine W.block ?_
    refine W.seq ?_
    refine W.seq ?_
    obtain ⟨b5, o6, rfl, _⟩ := hs.get (mkpt_get (k := k) (n := n) (i := i) (by omega))
    refine W.region ?_
    refine L.v (o_move (v := (.slice (some ⟨b5, o6, none⟩) n c)) rfl) ?_
    refine L.v (o_move (v := (.int .i64 (i : Int))) rfl) ?_
    refine L.v (o_indexAddr (b := b5) (off := o6) (n := n) (c := c) i Try.underlying44 Try.sizeOf85 rfl rfl (by omega)) ?_
    refine L.v (o_fieldAddr (b := b5) (off := o6 + i * 4) (o := 0) (run_fieldAt (f := 0) (fld := { name := "At", type := 57, offset := 0, embedded := false, tag := "", pkgPath := "", byteOffset := 0 }) Try.underlying85 rfl Try.sizeOf57 (Nat.succ_ne_zero _)) rfl) ?_
    refine L.v (o_load (b := b5) (off := o6 + i * 4 + 0) (v := (.complex .f32 (cvt .f64 .f32 (FloatKind.nearest .f64 (k + 4 * (i : Int)))) (cvt .f64 .f32 4607182418800017408))) Try.isAgg57 rfl (Sl.mkpt hs (by omega) 0 _ rfl) rfl) ?_
    refine L.v (o_move (v := (.int .i64 (k + 4 * (i : Int)))) rfl) ?_
    refine L.v (o_cvIF (a := k + 4 * (i : Int)) (by rw [Try.underlying3]; rfl) Try.underlying30 rfl) ?_
    refine L.v (o_complex (k := .f64) (a := FloatKind.nearest .f64 (k + 4 * (i : Int))) (b := 4607182418800017408) rfl rfl) ?_
    refine L.v (o_cvCC (s := .f64) (d := .f32) (a := FloatKind.nearest .f64 (k + 4 * (i : Int))) (b := 4607182418800017408) (by rw [Try.underlying61]; rfl) Try.underlying57 rfl (mark_ok (by omega)) (by decide +kernel)) ?_
    refine L.v (o_cneq (k := .f32) (a := cvt .f64 .f32 (FloatKind.nearest .f64 (k + 4 * (i : Int)))) (b := cvt .f64 .f32 4607182418800017408) (c := cvt .f64 .f32 (FloatKind.nearest .f64 (k + 4 * (i : Int)))) (d := cvt .f64 .f32 4607182418800017408) rfl rfl rfl) ?_
    refine L.nil ?_
    refine W.condF (b := !(fcmp .eql .f32 (cvt .f64 .f32 (FloatKind.nearest .f64 (k + 4 * (i : Int)))) (cvt .f64 .f32 (FloatKind.nearest .f64 (k + 4 * (i : Int)))) && fcmp .eql .f32 (cvt .f64 .f32 4607182418800017408) (cvt .f64 .f32 4607182418800017408))) rfl (cneq_self (mark_num (by omega)) one_num) ?_
    refine W.skip ?_
    refine W.seq ?_
    refine W.region ?_
    refine L.v (o_move (v := (.int .i64 (k + 4 * (i : Int)))) rfl) ?_
    refine L.v (o_iadd (a := k + 4 * (i : Int)) (b := 1) (c := k + 4 * (i : Int) + 1) rfl rfl (by rw [IntWalk.i64_in _ (by omega)]; try (push_cast; omega))) ?_
    refine L.v (o_assign (v := (.int .i64 (k + 4 * (i : Int) + 1))) rfl) ?_
    refine L.nil ?_
    refine W.seq ?_
    refine W.seq ?_
    refine W.region ?_
    refine L.v (o_move (v := (.slice (some ⟨b5, o6, none⟩) n c)) rfl) ?_
    refine L.v (o_move (v := (.int .i64 (i : Int))) rfl) ?_
    refine L.v (o_indexAddr (b := b5) (off := o6) (n := n) (c := c) i Try.underlying44 Try.sizeOf85 rfl rfl (by omega)) ?_
    refine L.v (o_fieldAddr (b := b5) (off := o6 + i * 4) (o := 1) (run_fieldAt (f := 1) (fld := { name := "Speed", type := 57, offset := 1, embedded := false, tag := "", pkgPath := "", byteOffset := 8 }) Try.underlying85 rfl Try.sizeOf57 (Nat.succ_ne_zero _)) rfl) ?_
    refine L.v (o_load (b := b5) (off := o6 + i * 4 + 1) (v := (.complex .f32 (cvt .f64 .f32 (FloatKind.nearest .f64 (k + 4 * (i : Int) + 1))) (cvt .f64 .f32 4607182418800017408))) Try.isAgg57 rfl (Sl.mkpt hs (by omega) 1 _ rfl) rfl) ?_
    refine L.v (o_move (v := (.int .i64 (k + 4 * (i : Int) + 1))) rfl) ?_
    refine L.v (o_cvIF (a := k + 4 * (i : Int) + 1) (by rw [Try.underlying3]; rfl) Try.underlying30 rfl) ?_
    refine L.v (o_complex (k := .f64) (a := FloatKind.nearest .f64 (k + 4 * (i : Int) + 1)) (b := 4607182418800017408) rfl rfl) ?_
    refine L.v (o_cvCC (s := .f64) (d := .f32) (a := FloatKind.nearest .f64 (k + 4 * (i : Int) + 1)) (b := 4607182418800017408) (by rw [Try.underlying61]; rfl) Try.underlying57 rfl (mark_ok (by omega)) (by decide +kernel)) ?_
    refine L.v (o_cneq (k := .f32) (a := cvt .f64 .f32 (FloatKind.nearest .f64 (k + 4 * (i : Int) + 1))) (b := cvt .f64 .f32 4607182418800017408) (c := cvt .f64 .f32 (FloatKind.nearest .f64 (k + 4 * (i : Int) + 1))) (d := cvt .f64 .f32 4607182418800017408) rfl rfl rfl) ?_
    refine L.nil ?_
    refine W.condF (b := !(fcmp .eql .f32 (cvt .f64 .f32 (FloatKind.nearest .f64 (k + 4 * (i : Int) + 1))) (cvt .f64 .f32 (FloatKind.nearest .f64 (k + 4 * (i : Int) + 1))) && fcmp .eql .f32 (cvt .f64 .f32 4607182418800017408) (cvt .f64 .f32 4607182418800017408))) rfl (cneq_self (mark_num (by omega)) one_num) ?_
    refine W.skip ?_
    refine W.seq ?_
    refine W.region ?_
    refine L.v (o_move (v := (.int .i64 (k + 4 * (i : Int) + 1))) rfl) ?_
    refine L.v (o_iadd (a := k + 4 * (i : Int) + 1) (b := 1) (c := k + 4 * (i : Int) + 2) rfl rfl (by rw [IntWalk.i64_in _ (by omega)]; try (push_cast; omega))) ?_
    refine L.v (o_assign (v := (.int .i64 (k + 4 * (i : Int) + 2))) rfl) ?_
    refine L.nil ?_
    refine W.seq ?_
    refine W.seq ?_
    refine W.region ?_
    refine L.v (o_move (v := (.slice (some ⟨b5, o6, none⟩) n c)) rfl) ?_
    refine L.v (o_move (v := (.int .i64 (i : Int))) rfl) ?_
    refine L.v (o_indexAddr (b := b5) (off := o6) (n := n) (c := c) i Try.underlying44 Try.sizeOf85 rfl rfl (by omega)) ?_
    refine L.v (o_fieldAddr (b := b5) (off := o6 + i * 4) (o := 2) (run_fieldAt (f := 2) (fld := { name := "Charge", type := 24, offset := 2, embedded := false, tag := "", pkgPath := "", byteOffset := 16 }) Try.underlying85 rfl Try.sizeOf24 (Nat.succ_ne_zero _)) rfl) ?_
    refine L.v (o_load (b := b5) (off := o6 + i * 4 + 2) (v := (.float .f32 (FloatKind.nearest .f32 (k + 4 * (i : Int) + 2)))) Try.isAgg24 rfl (Sl.mkpt hs (by omega) 2 _ rfl) rfl) ?_
    refine L.v (o_move (v := (.int .i64 (k + 4 * (i : Int) + 2))) rfl) ?_
    refine L.v (o_cvIF (a := k + 4 * (i : Int) + 2) (by rw [Try.underlying3]; rfl) Try.underlying24 rfl) ?_
    refine L.v (o_fcmp (k := .f32) (a := FloatKind.nearest .f32 (k + 4 * (i : Int) + 2)) (b := FloatKind.nearest .f32 (k + 4 * (i : Int) + 2)) rfl rfl rfl rfl) ?_
    refine L.nil ?_
    refine W.condF (b := fcmp .neq .f32 (FloatKind.nearest .f32 (k + 4 * (i : Int) + 2)) (FloatKind.nearest .f32 (k + 4 * (i : Int) + 2))) rfl (fcmp_neq_self (k := .f32) (a := FloatKind.nearest .f32 (k + 4 * (i : Int) + 2)) (nearest_num .f32 (k + 4 * (i : Int) + 2))) ?_
    refine W.skip ?_
    refine W.seq ?_
    refine W.region ?_
    refine L.v (o_move (v := (.int .i64 (k + 4 * (i : Int) + 2))) rfl) ?_
    refine L.v (o_iadd (a := k + 4 * (i : Int) + 2) (b := 1) (c := k + 4 * (i : Int) + 3) rfl rfl (by rw [IntWalk.i64_in _ (by omega)]; try (push_cast; omega))) ?_
    refine L.v (o_assign (v := (.int .i64 (k + 4 * (i : Int) + 3))) rfl) ?_
    refine L.nil ?_
    refine W.seq ?_
    refine W.seq ?_
    refine W.region ?_
    refine L.v (o_move (v := (.slice (some ⟨b5, o6, none⟩) n c)) rfl) ?_
    refine L.v (o_move (v := (.int .i64 (i : Int))) rfl) ?_
    refine L.v (o_indexAddr (b := b5) (off := o6) (n := n) (c := c) i Try.underlying44 Try.sizeOf85 rfl rfl (by omega)) ?_
    refine L.v (o_fieldAddr (b := b5) (off := o6 + i * 4) (o := 3) (run_fieldAt (f := 3) (fld := { name := "Mass", type := 24, offset := 3, embedded := false, tag := "", pkgPath := "", byteOffset := 20 }) Try.underlying85 rfl Try.sizeOf24 (Nat.succ_ne_zero _)) rfl) ?_
    refine L.v (o_load (b := b5) (off := o6 + i * 4 + 3) (v := (.float .f32 (FloatKind.nearest .f32 (k + 4 * (i : Int) + 3)))) Try.isAgg24 rfl (Sl.mkpt hs (by omega) 3 _ rfl) rfl) ?_
    refine L.v (o_move (v := (.int .i64 (k + 4 * (i : Int) + 3))) rfl) ?_
    refine L.v (o_cvIF (a := k + 4 * (i : Int) + 3) (by rw [Try.underlying3]; rfl) Try.underlying24 rfl) ?_
    refine L.v (o_fcmp (k := .f32) (a := FloatKind.nearest .f32 (k + 4 * (i : Int) + 3)) (b := FloatKind.nearest .f32 (k + 4 * (i : Int) + 3)) rfl rfl rfl rfl) ?_
    refine L.nil ?_
    refine W.condF (b := fcmp .neq .f32 (FloatKind.nearest .f32 (k + 4 * (i : Int) + 3)) (FloatKind.nearest .f32 (k + 4 * (i : Int) + 3))) rfl (fcmp_neq_self (k := .f32) (a := FloatKind.nearest .f32 (k + 4 * (i : Int) + 3)) (nearest_num .f32 (k + 4 * (i : Int) + 3))) ?_
    refine W.skip ?_
    refine W.region ?_
    refine L.v (o_move (v := (.int .i64 (k + 4 * (i : Int) + 3))) rfl) ?_
    refine L.v (o_iadd (a := k + 4 * (i : Int) + 3) (b := 1) (c := k + 4 * ((i + 1 : Nat) : Int)) rfl rfl (by rw [IntWalk.i64_in _ (by omega)]; try (push_cast; omega))) ?_
    refine L.v (o_assign (v := (.int .i64 (k + 4 * ((i + 1 : Nat) : Int)))) rfl) ?_
    refine L.nil ?_
    refine W.region ?_
    refine L.v (o_move (v := (.int .i64 (i : Int))) rfl) ?_
    refine L.v (o_iadd (a := (i : Int)) (b := 1) (c := ((i + 1 : Nat) : Int)) rfl rfl (by rw [IntWalk.i64_in _ (by omega)]; try (push_cast; omega))) ?_
    refine L.v (o_assign (v := (.int .i64 (((i + 1 : Nat) : Int)))) rfl) ?_
    refine L.nil ?_
    exact ⟨_, (by omega), i + 1, rfl, (by omega), ⟨rfl, rfl, rfl, trivial⟩, rfl⟩
  ·
    have a7 : ¬ (((i : Int) : Int) < (n : Int)) := of_decide_eq_false q3
    refine W.exit ?_
    refine W.seq ?_
    refine W.region ?_
    refine L.v (o_move (v := (.int .i64 (k + 4 * (i : Int)))) rfl) ?_
    refine L.v (o_assign (v := (.int .i64 (k + 4 * (i : Int)))) rfl) ?_
    refine L.nil ?_
    refine W.ret ?_
    obtain rfl : i = n := by omega
    exact RetK.one σ (.int .i64 (k + 4 * (i : Int))) rfl rfl (Ext.refl _) ⟨rfl, rfl⟩

end Go.Proofs.Ytnonlibekcacgaa.En
