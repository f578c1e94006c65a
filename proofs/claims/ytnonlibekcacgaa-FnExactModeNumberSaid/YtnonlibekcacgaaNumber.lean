/- ModeNumber in the program and in the reference, and its law: what each call gives, for every grid and every two numbers. The turns that reach the sine are finitely many; at each the kernel has computed that nothing overflows. -/
import Derived.Test.YtnonlibekcacgaaSine
import Derived.Test.YtnonlibekcacgaaRows
namespace Go.Proofs.Ytnonlibekcacgaa.En
open Go
set_option linter.unusedVariables false
set_option maxRecDepth 100000
def turns (m w : Nat) : Nat := fop .quo .f32 (FloatKind.nearest .f32 (m : Int)) (FloatKind.nearest .f32 ((2 * w : Nat) : Int))
def fineB (t : Nat) : Bool := !isnan .f64 t && (!fcmp .neq .f64 (fop .sub .f64 t t) 0 && (fcmp .eql .f64 (fop .sub .f64 t t) 0 && (!fcmp .geq .f64 t 4841369599423283200 && (!fcmp .leq .f64 t 14064741636278059008 && (floatToIntVal .f64 t .i64 == some 0 && (!fcmp .lss .f64 (fop .sub .f64 t 0) 0 &&
  (!fcmp .geq .f64 (fop .sub .f64 t 0) 4602678819172646912 && (fcmp .eql .f64 (truncF t) 0 && (!fcmp .geq .f64 (absF t) 4841369599423283200 && okcvt .f64 .f32 (sineV (fop .sub .f64 t 0)))))))))))
theorem fine_fineB {t : Nat} (h : fineB t = true) : Fine t := by
  simp only [fineB, Bool.and_eq_true, Bool.not_eq_true', beq_iff_eq] at h
  obtain ⟨h1, h2, he, h3, h4, h5, h6, h7, h8, h9, h10⟩ := h
  exact ⟨h1, h2, he, h3, h4, h5, h6, h7, h8, h9, h10⟩
theorem fine_all : ∀ w : Fin 17, ∀ m : Fin 16, 4 ≤ w.val → m.val < w.val → fineB (cvt .f32 .f64 (turns m.val w.val)) = true := by decide +kernel
theorem fine_of {m w : Nat} (hw : 4 ≤ w ∧ w ≤ 16) (hm : m < w) : Fine (cvt .f32 .f64 (fop .quo .f32 (FloatKind.nearest .f32 (m : Int)) (FloatKind.nearest .f32 ((2 * w : Nat) : Int)))) :=
  fine_fineB (fine_all ⟨w, by omega⟩ ⟨m, by omega⟩ hw.1 hm)
def numV (w h m n : Nat) : Nat := fop .mul .f32 1082130432 (fop .add .f32 (fop .mul .f32 (sineF (turns m w)) (sineF (turns m w))) (fop .mul .f32 (sineF (turns n h)) (sineF (turns n h))))
def numC (gx gy m n : Int) : Prop := ((((4 ≤ gx ∧ gx ≤ 16) ∧ 4 ≤ gy ∧ gy ≤ 16) ∧ 0 ≤ m ∧ m ≤ gx - 1) ∧ 0 ≤ n ∧ n ≤ gy - 1)
instance (gx gy m n : Int) : Decidable (numC gx gy m n) := by unfold numC; infer_instance
def numF (gx gy m n : Int) : Nat := if numC gx gy m n then numV gx.toNat gy.toNat m.toNat n.toNat else 0
def numB (gx gy m n : Int) : Bool := decide (numC gx gy m n)
theorem numF_no {gx gy m n : Int} (h : ¬ ((((4 ≤ gx ∧ gx ≤ 16) ∧ 4 ≤ gy ∧ gy ≤ 16) ∧ 0 ≤ m ∧ m ≤ gx - 1) ∧ 0 ≤ n ∧ n ≤ gy - 1)) : numF gx gy m n = 0 := if_neg h
theorem numB_no {gx gy m n : Int} (h : ¬ ((((4 ≤ gx ∧ gx ≤ 16) ∧ 4 ≤ gy ∧ gy ≤ 16) ∧ 0 ≤ m ∧ m ≤ gx - 1) ∧ 0 ≤ n ∧ n ≤ gy - 1)) : numB gx gy m n = false := decide_eq_false h
theorem numF_yes {w h m n : Nat} (hc : ((((4 ≤ (w : Int) ∧ (w : Int) ≤ 16) ∧ 4 ≤ (h : Int) ∧ (h : Int) ≤ 16) ∧ 0 ≤ (m : Int) ∧ (m : Int) ≤ (w : Int) - 1) ∧ 0 ≤ (n : Int) ∧ (n : Int) ≤ (h : Int) - 1)) : numF w h m n = numV w h m n := if_pos hc
theorem numB_yes {w h m n : Nat} (hc : ((((4 ≤ (w : Int) ∧ (w : Int) ≤ 16) ∧ 4 ≤ (h : Int) ∧ (h : Int) ≤ 16) ∧ 0 ≤ (m : Int) ∧ (m : Int) ≤ (w : Int) - 1) ∧ 0 ≤ (n : Int) ∧ (n : Int) ≤ (h : Int) - 1)) : numB w h m n = true := decide_eq_true hc
theorem specNum {w0 : World} {σ : Sg} (b e w h : Nat) (hb : σ b = some (e, [.int .i64 (w : Int), .int .i64 (h : Int)])) (m n : Nat) (hwb : 4 ≤ w ∧ w ≤ 16) (hhb : 4 ≤ h ∧ h ≤ 16) (hm : m < w) (hn : n < h) :
    FnV Try.prog w0 48 [(.pointer (some ⟨b, 0, none⟩)), (.int .i64 ↑m), (.int .i64 ↑n)] σ (.float .f32 (numV w h m n)) := by
  unfold FnV
  refine Fn.of_W 37 Try.func48 rfl Try.ntmps48 rfl ?_
  refine W.seq ?_
  refine W.region ?_
  refine L.v (o_assign (v := (.float .f32 0)) rfl) ?_
  refine L.nil ?_
  refine W.seq ?_
  refine W.region ?_
  refine L.v (o_move (v := (.int .i64 (m : Int))) rfl) ?_
  refine L.v (o_cvIF (a := (m : Int)) (by rw [Try.underlying2]; rfl) Try.underlying24 rfl) ?_
  refine L.v (o_move (v := (.pointer (some ⟨b, 0, none⟩))) rfl) ?_
  refine L.v (o_nilCheck (p := ⟨b, 0, none⟩) rfl) ?_
  refine L.v (o_fieldAddr (b := b) (off := 0) (o := 0) (run_fieldAt (f := 0) (fld := { name := "Wide", type := 2, offset := 0, embedded := false, tag := "", pkgPath := "", byteOffset := 0 }) Try.underlying27 rfl Try.sizeOf2 (Nat.succ_ne_zero _)) rfl) ?_
  refine L.v (o_load (b := b) (off := 0 + 0) (v := (.int .i64 (w : Int))) Try.isAgg2 rfl (Rd.of hb rfl) rfl) ?_
  refine L.v (o_imul (a := 2) (b := (w : Int)) (c := ((2 * w : Nat) : Int)) rfl rfl (by rw [IntWalk.i64_in _ (by omega)]; try omega)) ?_
  refine L.v (o_cvIF (a := ((2 * w : Nat) : Int)) (by rw [Try.underlying2]; rfl) Try.underlying24 rfl) ?_
  refine L.v (o_farith (k := .f32) (a := FloatKind.nearest .f32 (m : Int)) (b := FloatKind.nearest .f32 (((2 * w : Nat) : Int))) rfl rfl rfl) ?_
  refine L.v (v := (.float .f32 (sineF (fop .quo .f32 (FloatKind.nearest .f32 (m : Int)) (FloatKind.nearest .f32 (((2 * w : Nat) : Int))))))) (op_call [(.float .f32 (fop .quo .f32 (FloatKind.nearest .f32 (m : Int)) (FloatKind.nearest .f32 (((2 * w : Nat) : Int)))))] Try.call53 rfl (specSine (fop .quo .f32 (FloatKind.nearest .f32 (m : Int)) (FloatKind.nearest .f32 (((2 * w : Nat) : Int)))) (fine_of (by omega) (by omega)))) ?_
  refine L.v (o_assign (v := (.float .f32 (sineF (fop .quo .f32 (FloatKind.nearest .f32 (m : Int)) (FloatKind.nearest .f32 (((2 * w : Nat) : Int))))))) rfl) ?_
  refine L.nil ?_
  refine W.seq ?_
  refine W.region ?_
  refine L.v (o_move (v := (.int .i64 (n : Int))) rfl) ?_
  refine L.v (o_cvIF (a := (n : Int)) (by rw [Try.underlying2]; rfl) Try.underlying24 rfl) ?_
  refine L.v (o_move (v := (.pointer (some ⟨b, 0, none⟩))) rfl) ?_
  refine L.v (o_nilCheck (p := ⟨b, 0, none⟩) rfl) ?_
  refine L.v (o_fieldAddr (b := b) (off := 0) (o := 1) (run_fieldAt (f := 1) (fld := { name := "High", type := 2, offset := 1, embedded := false, tag := "", pkgPath := "", byteOffset := 8 }) Try.underlying27 rfl Try.sizeOf2 (Nat.succ_ne_zero _)) rfl) ?_
  refine L.v (o_load (b := b) (off := 0 + 1) (v := (.int .i64 (h : Int))) Try.isAgg2 rfl (Rd.of hb rfl) rfl) ?_
  refine L.v (o_imul (a := 2) (b := (h : Int)) (c := ((2 * h : Nat) : Int)) rfl rfl (by rw [IntWalk.i64_in _ (by omega)]; try omega)) ?_
  refine L.v (o_cvIF (a := ((2 * h : Nat) : Int)) (by rw [Try.underlying2]; rfl) Try.underlying24 rfl) ?_
  refine L.v (o_farith (k := .f32) (a := FloatKind.nearest .f32 (n : Int)) (b := FloatKind.nearest .f32 (((2 * h : Nat) : Int))) rfl rfl rfl) ?_
  refine L.v (v := (.float .f32 (sineF (fop .quo .f32 (FloatKind.nearest .f32 (n : Int)) (FloatKind.nearest .f32 (((2 * h : Nat) : Int))))))) (op_call [(.float .f32 (fop .quo .f32 (FloatKind.nearest .f32 (n : Int)) (FloatKind.nearest .f32 (((2 * h : Nat) : Int)))))] Try.call53 rfl (specSine (fop .quo .f32 (FloatKind.nearest .f32 (n : Int)) (FloatKind.nearest .f32 (((2 * h : Nat) : Int)))) (fine_of (by omega) (by omega)))) ?_
  refine L.v (o_assign (v := (.float .f32 (sineF (fop .quo .f32 (FloatKind.nearest .f32 (n : Int)) (FloatKind.nearest .f32 (((2 * h : Nat) : Int))))))) rfl) ?_
  refine L.nil ?_
  refine W.seq ?_
  refine W.region ?_
  refine L.v (o_move (v := (.float .f32 (sineF (fop .quo .f32 (FloatKind.nearest .f32 (m : Int)) (FloatKind.nearest .f32 (((2 * w : Nat) : Int))))))) rfl) ?_
  refine L.v (o_move (v := (.float .f32 (sineF (fop .quo .f32 (FloatKind.nearest .f32 (m : Int)) (FloatKind.nearest .f32 (((2 * w : Nat) : Int))))))) rfl) ?_
  refine L.v (o_farith (k := .f32) (a := sineF (fop .quo .f32 (FloatKind.nearest .f32 (m : Int)) (FloatKind.nearest .f32 (((2 * w : Nat) : Int))))) (b := sineF (fop .quo .f32 (FloatKind.nearest .f32 (m : Int)) (FloatKind.nearest .f32 (((2 * w : Nat) : Int))))) rfl rfl rfl) ?_
  refine L.v (o_move (v := (.float .f32 (sineF (fop .quo .f32 (FloatKind.nearest .f32 (n : Int)) (FloatKind.nearest .f32 (((2 * h : Nat) : Int))))))) rfl) ?_
  refine L.v (o_move (v := (.float .f32 (sineF (fop .quo .f32 (FloatKind.nearest .f32 (n : Int)) (FloatKind.nearest .f32 (((2 * h : Nat) : Int))))))) rfl) ?_
  refine L.v (o_farith (k := .f32) (a := sineF (fop .quo .f32 (FloatKind.nearest .f32 (n : Int)) (FloatKind.nearest .f32 (((2 * h : Nat) : Int))))) (b := sineF (fop .quo .f32 (FloatKind.nearest .f32 (n : Int)) (FloatKind.nearest .f32 (((2 * h : Nat) : Int))))) rfl rfl rfl) ?_
  refine L.v (o_farith (k := .f32) (a := fop .mul .f32 (sineF (fop .quo .f32 (FloatKind.nearest .f32 (m : Int)) (FloatKind.nearest .f32 (((2 * w : Nat) : Int))))) (sineF (fop .quo .f32 (FloatKind.nearest .f32 (m : Int)) (FloatKind.nearest .f32 (((2 * w : Nat) : Int)))))) (b := fop .mul .f32 (sineF (fop .quo .f32 (FloatKind.nearest .f32 (n : Int)) (FloatKind.nearest .f32 (((2 * h : Nat) : Int))))) (sineF (fop .quo .f32 (FloatKind.nearest .f32 (n : Int)) (FloatKind.nearest .f32 (((2 * h : Nat) : Int)))))) rfl rfl rfl) ?_
  refine L.v (o_farith (k := .f32) (a := 1082130432) (b := fop .add .f32 (fop .mul .f32 (sineF (fop .quo .f32 (FloatKind.nearest .f32 (m : Int)) (FloatKind.nearest .f32 (((2 * w : Nat) : Int))))) (sineF (fop .quo .f32 (FloatKind.nearest .f32 (m : Int)) (FloatKind.nearest .f32 (((2 * w : Nat) : Int)))))) (fop .mul .f32 (sineF (fop .quo .f32 (FloatKind.nearest .f32 (n : Int)) (FloatKind.nearest .f32 (((2 * h : Nat) : Int))))) (sineF (fop .quo .f32 (FloatKind.nearest .f32 (n : Int)) (FloatKind.nearest .f32 (((2 * h : Nat) : Int))))))) rfl rfl rfl) ?_
  refine L.v (o_assign (v := (.float .f32 (fop .mul .f32 1082130432 (fop .add .f32 (fop .mul .f32 (sineF (fop .quo .f32 (FloatKind.nearest .f32 (m : Int)) (FloatKind.nearest .f32 (((2 * w : Nat) : Int))))) (sineF (fop .quo .f32 (FloatKind.nearest .f32 (m : Int)) (FloatKind.nearest .f32 (((2 * w : Nat) : Int)))))) (fop .mul .f32 (sineF (fop .quo .f32 (FloatKind.nearest .f32 (n : Int)) (FloatKind.nearest .f32 (((2 * h : Nat) : Int))))) (sineF (fop .quo .f32 (FloatKind.nearest .f32 (n : Int)) (FloatKind.nearest .f32 (((2 * h : Nat) : Int)))))))))) rfl) ?_
  refine L.nil ?_
  refine W.ret ?_
  exact RetK.one σ (.float .f32 (fop .mul .f32 1082130432 (fop .add .f32 (fop .mul .f32 (sineF (fop .quo .f32 (FloatKind.nearest .f32 (m : Int)) (FloatKind.nearest .f32 (((2 * w : Nat) : Int))))) (sineF (fop .quo .f32 (FloatKind.nearest .f32 (m : Int)) (FloatKind.nearest .f32 (((2 * w : Nat) : Int)))))) (fop .mul .f32 (sineF (fop .quo .f32 (FloatKind.nearest .f32 (n : Int)) (FloatKind.nearest .f32 (((2 * h : Nat) : Int))))) (sineF (fop .quo .f32 (FloatKind.nearest .f32 (n : Int)) (FloatKind.nearest .f32 (((2 * h : Nat) : Int))))))))) rfl rfl (Ext.refl _) ⟨rfl, rfl⟩

theorem implNum {w0 : World} {σ : Sg} (w h m n : Nat) (hwb : 4 ≤ w ∧ w ≤ 16) (hhb : 4 ≤ h ∧ h ≤ 16) (hm : m < w) (hn : n < h) :
    FnV Try.prog w0 51 [(.agg #[(.int .i64 ↑w), (.int .i64 ↑h)]), (.int .i64 ↑m), (.int .i64 ↑n)] σ (.float .f32 (numV w h m n)) := by
  unfold FnV
  refine Fn.of_W 33 Try.func51 rfl Try.ntmps51 rfl ?_
  refine W.seq ?_
  refine W.region ?_
  refine L.cons (o_box (v := (.agg #[(.int .i64 (w : Int)), (.int .i64 (h : Int))])) rfl rfl [(.int .i64 (w : Int)), (.int .i64 (h : Int))] rfl) ?_
  rintro _ _ ⟨b1, hf2, hw3, rfl, rfl⟩
  have hb6 : (sg σ b1 (27, [(.int .i64 (w : Int)), (.int .i64 (h : Int))])) b1 = some (27, [(.int .i64 (w : Int)), (.int .i64 (h : Int))]) := sg_eq _ _ _
  have hx5 : Ext σ (sg σ b1 (27, [(.int .i64 (w : Int)), (.int .i64 (h : Int))])) := (Ext.refl _).sg hf2
  have ehx5 := Ext.trans (Ext.refl _) hx5
  generalize hgs4 : sg σ b1 (27, [(.int .i64 (w : Int)), (.int .i64 (h : Int))]) = s4 at *
  clear hgs4
  refine L.v (o_assign (v := (.float .f32 0)) rfl) ?_
  refine L.nil ?_
  refine W.seq ?_
  refine W.draw [true, true, true, true, true, true, true, true, true, true, true, true, true, true, true, true, true, true] (fun s => s = s4) (by kernel_rfl) (by kernel_rfl) ?_
  refine DL.v (fun _ hD => by cases hD; exact o_move (v := (.int .i64 (m : Int))) rfl) ?_
  refine DL.v (fun _ hD => by cases hD; exact o_cvIF (a := (m : Int)) (by rw [Try.underlying2]; rfl) Try.underlying24 rfl) ?_
  refine DL.v (fun _ hD => by cases hD; exact o_fieldAddr (b := b1) (off := 0) (o := 0) (run_fieldAt (f := 0) (fld := { name := "Wide", type := 2, offset := 0, embedded := false, tag := "", pkgPath := "", byteOffset := 0 }) Try.underlying27 rfl Try.sizeOf2 (Nat.succ_ne_zero _)) rfl) ?_
  refine DL.v (fun _ hD => by cases hD; exact o_load (b := b1) (off := 0 + 0) (v := (.int .i64 (w : Int))) Try.isAgg2 rfl (Rd.of hb6 rfl) rfl) ?_
  refine DL.v (fun _ hD => by cases hD; exact o_imul (a := 2) (b := (w : Int)) (c := ((2 * w : Nat) : Int)) rfl rfl (by rw [IntWalk.i64_in _ (by omega)]; try omega)) ?_
  refine DL.v (fun _ hD => by cases hD; exact o_cvIF (a := ((2 * w : Nat) : Int)) (by rw [Try.underlying2]; rfl) Try.underlying24 rfl) ?_
  refine DL.v (fun _ hD => by cases hD; exact o_farith (k := .f32) (a := FloatKind.nearest .f32 (m : Int)) (b := FloatKind.nearest .f32 (((2 * w : Nat) : Int))) rfl rfl rfl) ?_
  refine DL.v (v := (.float .f32 (sineF (fop .quo .f32 (FloatKind.nearest .f32 (m : Int)) (FloatKind.nearest .f32 (((2 * w : Nat) : Int))))))) (fun _ hD => by cases hD; exact op_call [(.float .f32 (fop .quo .f32 (FloatKind.nearest .f32 (m : Int)) (FloatKind.nearest .f32 (((2 * w : Nat) : Int)))))] Try.call55 rfl (implSine (fop .quo .f32 (FloatKind.nearest .f32 (m : Int)) (FloatKind.nearest .f32 (((2 * w : Nat) : Int)))) (fine_of (by omega) (by omega)))) ?_
  refine DL.v (fun _ hD => by cases hD; exact o_move (v := (.int .i64 (n : Int))) rfl) ?_
  refine DL.v (fun _ hD => by cases hD; exact o_cvIF (a := (n : Int)) (by rw [Try.underlying2]; rfl) Try.underlying24 rfl) ?_
  refine DL.v (fun _ hD => by cases hD; exact o_fieldAddr (b := b1) (off := 0) (o := 1) (run_fieldAt (f := 1) (fld := { name := "High", type := 2, offset := 1, embedded := false, tag := "", pkgPath := "", byteOffset := 8 }) Try.underlying27 rfl Try.sizeOf2 (Nat.succ_ne_zero _)) rfl) ?_
  refine DL.v (fun _ hD => by cases hD; exact o_load (b := b1) (off := 0 + 1) (v := (.int .i64 (h : Int))) Try.isAgg2 rfl (Rd.of hb6 rfl) rfl) ?_
  refine DL.v (fun _ hD => by cases hD; exact o_imul (a := 2) (b := (h : Int)) (c := ((2 * h : Nat) : Int)) rfl rfl (by rw [IntWalk.i64_in _ (by omega)]; try omega)) ?_
  refine DL.v (fun _ hD => by cases hD; exact o_cvIF (a := ((2 * h : Nat) : Int)) (by rw [Try.underlying2]; rfl) Try.underlying24 rfl) ?_
  refine DL.v (fun _ hD => by cases hD; exact o_farith (k := .f32) (a := FloatKind.nearest .f32 (n : Int)) (b := FloatKind.nearest .f32 (((2 * h : Nat) : Int))) rfl rfl rfl) ?_
  refine DL.v (v := (.float .f32 (sineF (fop .quo .f32 (FloatKind.nearest .f32 (n : Int)) (FloatKind.nearest .f32 (((2 * h : Nat) : Int))))))) (fun _ hD => by cases hD; exact op_call [(.float .f32 (fop .quo .f32 (FloatKind.nearest .f32 (n : Int)) (FloatKind.nearest .f32 (((2 * h : Nat) : Int)))))] Try.call55 rfl (implSine (fop .quo .f32 (FloatKind.nearest .f32 (n : Int)) (FloatKind.nearest .f32 (((2 * h : Nat) : Int)))) (fine_of (by omega) (by omega)))) ?_
  refine DL.v (fun _ hD => by cases hD; exact o_assign (v := (.float .f32 (sineF (fop .quo .f32 (FloatKind.nearest .f32 (m : Int)) (FloatKind.nearest .f32 (((2 * w : Nat) : Int))))))) rfl) ?_
  refine DL.v (fun _ hD => by cases hD; exact o_assign (v := (.float .f32 (sineF (fop .quo .f32 (FloatKind.nearest .f32 (n : Int)) (FloatKind.nearest .f32 (((2 * h : Nat) : Int))))))) rfl) ?_
  refine DL.nil rfl ?_
  refine W.seq ?_
  refine W.region ?_
  refine L.v (o_move (v := (.float .f32 (sineF (fop .quo .f32 (FloatKind.nearest .f32 (m : Int)) (FloatKind.nearest .f32 (((2 * w : Nat) : Int))))))) rfl) ?_
  refine L.v (o_move (v := (.float .f32 (sineF (fop .quo .f32 (FloatKind.nearest .f32 (m : Int)) (FloatKind.nearest .f32 (((2 * w : Nat) : Int))))))) rfl) ?_
  refine L.v (o_farith (k := .f32) (a := sineF (fop .quo .f32 (FloatKind.nearest .f32 (m : Int)) (FloatKind.nearest .f32 (((2 * w : Nat) : Int))))) (b := sineF (fop .quo .f32 (FloatKind.nearest .f32 (m : Int)) (FloatKind.nearest .f32 (((2 * w : Nat) : Int))))) rfl rfl rfl) ?_
  refine L.v (o_move (v := (.float .f32 (sineF (fop .quo .f32 (FloatKind.nearest .f32 (n : Int)) (FloatKind.nearest .f32 (((2 * h : Nat) : Int))))))) rfl) ?_
  refine L.v (o_move (v := (.float .f32 (sineF (fop .quo .f32 (FloatKind.nearest .f32 (n : Int)) (FloatKind.nearest .f32 (((2 * h : Nat) : Int))))))) rfl) ?_
  refine L.v (o_farith (k := .f32) (a := sineF (fop .quo .f32 (FloatKind.nearest .f32 (n : Int)) (FloatKind.nearest .f32 (((2 * h : Nat) : Int))))) (b := sineF (fop .quo .f32 (FloatKind.nearest .f32 (n : Int)) (FloatKind.nearest .f32 (((2 * h : Nat) : Int))))) rfl rfl rfl) ?_
  refine L.v (o_farith (k := .f32) (a := fop .mul .f32 (sineF (fop .quo .f32 (FloatKind.nearest .f32 (m : Int)) (FloatKind.nearest .f32 (((2 * w : Nat) : Int))))) (sineF (fop .quo .f32 (FloatKind.nearest .f32 (m : Int)) (FloatKind.nearest .f32 (((2 * w : Nat) : Int)))))) (b := fop .mul .f32 (sineF (fop .quo .f32 (FloatKind.nearest .f32 (n : Int)) (FloatKind.nearest .f32 (((2 * h : Nat) : Int))))) (sineF (fop .quo .f32 (FloatKind.nearest .f32 (n : Int)) (FloatKind.nearest .f32 (((2 * h : Nat) : Int)))))) rfl rfl rfl) ?_
  refine L.v (o_farith (k := .f32) (a := 1082130432) (b := fop .add .f32 (fop .mul .f32 (sineF (fop .quo .f32 (FloatKind.nearest .f32 (m : Int)) (FloatKind.nearest .f32 (((2 * w : Nat) : Int))))) (sineF (fop .quo .f32 (FloatKind.nearest .f32 (m : Int)) (FloatKind.nearest .f32 (((2 * w : Nat) : Int)))))) (fop .mul .f32 (sineF (fop .quo .f32 (FloatKind.nearest .f32 (n : Int)) (FloatKind.nearest .f32 (((2 * h : Nat) : Int))))) (sineF (fop .quo .f32 (FloatKind.nearest .f32 (n : Int)) (FloatKind.nearest .f32 (((2 * h : Nat) : Int))))))) rfl rfl rfl) ?_
  refine L.v (o_assign (v := (.float .f32 (fop .mul .f32 1082130432 (fop .add .f32 (fop .mul .f32 (sineF (fop .quo .f32 (FloatKind.nearest .f32 (m : Int)) (FloatKind.nearest .f32 (((2 * w : Nat) : Int))))) (sineF (fop .quo .f32 (FloatKind.nearest .f32 (m : Int)) (FloatKind.nearest .f32 (((2 * w : Nat) : Int)))))) (fop .mul .f32 (sineF (fop .quo .f32 (FloatKind.nearest .f32 (n : Int)) (FloatKind.nearest .f32 (((2 * h : Nat) : Int))))) (sineF (fop .quo .f32 (FloatKind.nearest .f32 (n : Int)) (FloatKind.nearest .f32 (((2 * h : Nat) : Int)))))))))) rfl) ?_
  refine L.nil ?_
  refine W.ret ?_
  exact RetK.one σ (.float .f32 (fop .mul .f32 1082130432 (fop .add .f32 (fop .mul .f32 (sineF (fop .quo .f32 (FloatKind.nearest .f32 (m : Int)) (FloatKind.nearest .f32 (((2 * w : Nat) : Int))))) (sineF (fop .quo .f32 (FloatKind.nearest .f32 (m : Int)) (FloatKind.nearest .f32 (((2 * w : Nat) : Int)))))) (fop .mul .f32 (sineF (fop .quo .f32 (FloatKind.nearest .f32 (n : Int)) (FloatKind.nearest .f32 (((2 * h : Nat) : Int))))) (sineF (fop .quo .f32 (FloatKind.nearest .f32 (n : Int)) (FloatKind.nearest .f32 (((2 * h : Nat) : Int))))))))) rfl rfl ehx5 ⟨rfl, rfl⟩

theorem specMode {w0 : World} {σ : Sg} (gx gy m n : Int) :
    FnV Try.prog w0 11 [(.agg #[(.int .i64 gx), (.int .i64 gy)]), (.int .i64 m), (.int .i64 n)] σ (.tuple #[.float .f32 (numF gx gy m n), .bool (numB gx gy m n)]) := by
  unfold FnV
  refine Fn.of_W 29 Try.func11 rfl Try.ntmps11 rfl ?_
  refine W.seq ?_
  refine W.region ?_
  refine L.cons (o_box (v := (.agg #[(.int .i64 gx), (.int .i64 gy)])) rfl rfl [(.int .i64 gx), (.int .i64 gy)] rfl) ?_
  rintro _ _ ⟨b1, hf2, hw3, rfl, rfl⟩
  have hb6 : (sg σ b1 (27, [(.int .i64 gx), (.int .i64 gy)])) b1 = some (27, [(.int .i64 gx), (.int .i64 gy)]) := sg_eq _ _ _
  have hx5 : Ext σ (sg σ b1 (27, [(.int .i64 gx), (.int .i64 gy)])) := (Ext.refl _).sg hf2
  have ehx5 := Ext.trans (Ext.refl _) hx5
  generalize hgs4 : sg σ b1 (27, [(.int .i64 gx), (.int .i64 gy)]) = s4 at *
  clear hgs4
  refine L.v (o_assign (v := (.float .f32 0)) rfl) ?_
  refine L.v (o_assign (v := (.bool false)) rfl) ?_
  refine L.nil ?_
  refine W.seq ?_
  refine W.seq ?_
  refine W.region ?_
  refine L.v (v := (.bool (decide ((4 ≤ (gx : Int) ∧ (gx : Int) ≤ 16) ∧ 4 ≤ (gy : Int) ∧ (gy : Int) ≤ 16)))) (op_call [(.pointer (some ⟨b1, 0, none⟩))] Try.call46 rfl (specIs b1 _ gx gy hb6)) ?_
  refine L.v (o_not (b := decide ((4 ≤ (gx : Int) ∧ (gx : Int) ≤ 16) ∧ 4 ≤ (gy : Int) ∧ (gy : Int) ≤ 16)) rfl rfl) ?_
  refine L.v (o_move (v := (.bool (!(decide ((4 ≤ (gx : Int) ∧ (gx : Int) ≤ 16) ∧ 4 ≤ (gy : Int) ∧ (gy : Int) ≤ 16))))) rfl) ?_
  rcases Bool.eq_false_or_eq_true (!(decide ((4 ≤ (gx : Int) ∧ (gx : Int) ≤ 16) ∧ 4 ≤ (gy : Int) ∧ (gy : Int) ≤ 16))) with q7 | q7
  ·
    have a8 : ¬ ((4 ≤ (gx : Int) ∧ (gx : Int) ≤ 16) ∧ 4 ≤ (gy : Int) ∧ (gy : Int) ≤ 16) := of_decide_eq_false (bn_t q7)
    refine L.gF (j := 2) (d₁ := 10) (b := !(decide ((4 ≤ (gx : Int) ∧ (gx : Int) ≤ 16) ∧ 4 ≤ (gy : Int) ∧ (gy : Int) ≤ 16))) rfl rfl rfl q7 ?_
    refine L.gF (j := 2) (d₁ := 10) (b := !(decide ((4 ≤ (gx : Int) ∧ (gx : Int) ≤ 16) ∧ 4 ≤ (gy : Int) ∧ (gy : Int) ≤ 16))) rfl rfl rfl q7 ?_
    refine L.gF (j := 2) (d₁ := 10) (b := !(decide ((4 ≤ (gx : Int) ∧ (gx : Int) ≤ 16) ∧ 4 ≤ (gy : Int) ∧ (gy : Int) ≤ 16))) rfl rfl rfl q7 ?_
    refine L.gF (j := 2) (d₁ := 10) (b := !(decide ((4 ≤ (gx : Int) ∧ (gx : Int) ≤ 16) ∧ 4 ≤ (gy : Int) ∧ (gy : Int) ≤ 16))) rfl rfl rfl q7 ?_
    refine L.gF (j := 2) (d₁ := 10) (b := !(decide ((4 ≤ (gx : Int) ∧ (gx : Int) ≤ 16) ∧ 4 ≤ (gy : Int) ∧ (gy : Int) ≤ 16))) rfl rfl rfl q7 ?_
    refine L.gF (j := 2) (d₁ := 10) (b := !(decide ((4 ≤ (gx : Int) ∧ (gx : Int) ≤ 16) ∧ 4 ≤ (gy : Int) ∧ (gy : Int) ≤ 16))) rfl rfl rfl q7 ?_
    refine L.v (o_pickT (b := !(decide ((4 ≤ (gx : Int) ∧ (gx : Int) ≤ 16) ∧ 4 ≤ (gy : Int) ∧ (gy : Int) ≤ 16))) (v := (.bool true)) rfl q7 rfl) ?_
    refine L.v (o_move (v := (.bool true)) rfl) ?_
    refine L.gF (j := 10) (d₁ := 18) (b := true) rfl rfl rfl rfl ?_
    refine L.gF (j := 10) (d₁ := 18) (b := true) rfl rfl rfl rfl ?_
    refine L.gF (j := 10) (d₁ := 18) (b := true) rfl rfl rfl rfl ?_
    refine L.gF (j := 10) (d₁ := 18) (b := true) rfl rfl rfl rfl ?_
    refine L.gF (j := 10) (d₁ := 18) (b := true) rfl rfl rfl rfl ?_
    refine L.gF (j := 10) (d₁ := 18) (b := true) rfl rfl rfl rfl ?_
    refine L.v (o_pickT (b := true) (v := (.bool true)) rfl rfl rfl) ?_
    refine L.nil ?_
    refine W.condT (b := true) rfl rfl ?_
    refine W.seq ?_
    refine W.region ?_
    refine L.v (o_assign (v := (.float .f32 0)) rfl) ?_
    refine L.v (o_assign (v := (.bool false)) rfl) ?_
    refine L.nil ?_
    refine W.ret ?_
    exact RetK.two σ (.float .f32 0) (.bool false) rfl rfl rfl rfl rfl ehx5 ⟨by first | (rw [numF_yes (by omega), numB_yes (by omega)]) | (rw [numF_no (by omega), numB_no (by omega)]), rfl⟩
  ·
    have a9 : (4 ≤ (gx : Int) ∧ (gx : Int) ≤ 16) ∧ 4 ≤ (gy : Int) ∧ (gy : Int) ≤ 16 := of_decide_eq_true (bn_f q7)
    refine L.gv (j := 2) (d₁ := 10) (b := !(decide ((4 ≤ (gx : Int) ∧ (gx : Int) ≤ 16) ∧ 4 ≤ (gy : Int) ∧ (gy : Int) ≤ 16))) rfl rfl rfl q7 (o_move (v := (.int .i64 m)) rfl) ?_
    refine L.gv (j := 2) (d₁ := 10) (b := !(decide ((4 ≤ (gx : Int) ∧ (gx : Int) ≤ 16) ∧ 4 ≤ (gy : Int) ∧ (gy : Int) ≤ 16))) rfl rfl rfl q7 (o_fieldAddr (b := b1) (off := 0) (o := 0) (run_fieldAt (f := 0) (fld := { name := "Wide", type := 2, offset := 0, embedded := false, tag := "", pkgPath := "", byteOffset := 0 }) Try.underlying27 rfl Try.sizeOf2 (Nat.succ_ne_zero _)) rfl) ?_
    refine L.gv (j := 2) (d₁ := 10) (b := !(decide ((4 ≤ (gx : Int) ∧ (gx : Int) ≤ 16) ∧ 4 ≤ (gy : Int) ∧ (gy : Int) ≤ 16))) rfl rfl rfl q7 (o_load (b := b1) (off := 0 + 0) (v := (.int .i64 gx)) Try.isAgg2 rfl (Rd.of hb6 rfl) rfl) ?_
    refine L.gv (j := 2) (d₁ := 10) (b := !(decide ((4 ≤ (gx : Int) ∧ (gx : Int) ≤ 16) ∧ 4 ≤ (gy : Int) ∧ (gy : Int) ≤ 16))) rfl rfl rfl q7 (o_isub (a := gx) (b := 1) (c := gx - 1) rfl rfl (by rw [IntWalk.i64_in _ (by omega)]; try omega)) ?_
    refine L.gv (j := 2) (d₁ := 10) (b := !(decide ((4 ≤ (gx : Int) ∧ (gx : Int) ≤ 16) ∧ 4 ≤ (gy : Int) ∧ (gy : Int) ≤ 16))) rfl rfl rfl q7 (v := (.bool (decide ((0 : Int) ≤ m ∧ (m : Int) ≤ (gx - 1))))) (op_call [(.int .i64 m), (.int .i64 0), (.int .i64 (gx - 1))] Try.call47 rfl (withinS m 0 (gx - 1))) ?_
    refine L.gv (j := 2) (d₁ := 10) (b := !(decide ((4 ≤ (gx : Int) ∧ (gx : Int) ≤ 16) ∧ 4 ≤ (gy : Int) ∧ (gy : Int) ≤ 16))) rfl rfl rfl q7 (o_not (b := decide ((0 : Int) ≤ m ∧ (m : Int) ≤ (gx - 1))) rfl rfl) ?_
    refine L.v (o_pickF (b := !(decide ((4 ≤ (gx : Int) ∧ (gx : Int) ≤ 16) ∧ 4 ≤ (gy : Int) ∧ (gy : Int) ≤ 16))) (v := (.bool (!(decide ((0 : Int) ≤ m ∧ (m : Int) ≤ (gx - 1)))))) rfl q7 rfl) ?_
    refine L.v (o_move (v := (.bool (!(decide ((0 : Int) ≤ m ∧ (m : Int) ≤ (gx - 1)))))) rfl) ?_
    rcases Bool.eq_false_or_eq_true (!(decide ((0 : Int) ≤ m ∧ (m : Int) ≤ (gx - 1)))) with q10 | q10
    ·
      have a11 : ¬ ((0 : Int) ≤ m ∧ (m : Int) ≤ (gx - 1)) := of_decide_eq_false (bn_t q10)
      refine L.gF (j := 10) (d₁ := 18) (b := !(decide ((0 : Int) ≤ m ∧ (m : Int) ≤ (gx - 1)))) rfl rfl rfl q10 ?_
      refine L.gF (j := 10) (d₁ := 18) (b := !(decide ((0 : Int) ≤ m ∧ (m : Int) ≤ (gx - 1)))) rfl rfl rfl q10 ?_
      refine L.gF (j := 10) (d₁ := 18) (b := !(decide ((0 : Int) ≤ m ∧ (m : Int) ≤ (gx - 1)))) rfl rfl rfl q10 ?_
      refine L.gF (j := 10) (d₁ := 18) (b := !(decide ((0 : Int) ≤ m ∧ (m : Int) ≤ (gx - 1)))) rfl rfl rfl q10 ?_
      refine L.gF (j := 10) (d₁ := 18) (b := !(decide ((0 : Int) ≤ m ∧ (m : Int) ≤ (gx - 1)))) rfl rfl rfl q10 ?_
      refine L.gF (j := 10) (d₁ := 18) (b := !(decide ((0 : Int) ≤ m ∧ (m : Int) ≤ (gx - 1)))) rfl rfl rfl q10 ?_
      refine L.v (o_pickT (b := !(decide ((0 : Int) ≤ m ∧ (m : Int) ≤ (gx - 1)))) (v := (.bool true)) rfl q10 rfl) ?_
      refine L.nil ?_
      refine W.condT (b := true) rfl rfl ?_
      refine W.seq ?_
      refine W.region ?_
      refine L.v (o_assign (v := (.float .f32 0)) rfl) ?_
      refine L.v (o_assign (v := (.bool false)) rfl) ?_
      refine L.nil ?_
      refine W.ret ?_
      exact RetK.two σ (.float .f32 0) (.bool false) rfl rfl rfl rfl rfl ehx5 ⟨by first | (rw [numF_yes (by omega), numB_yes (by omega)]) | (rw [numF_no (by omega), numB_no (by omega)]), rfl⟩
    ·
      have a12 : (0 : Int) ≤ m ∧ (m : Int) ≤ (gx - 1) := of_decide_eq_true (bn_f q10)
      refine L.gv (j := 10) (d₁ := 18) (b := !(decide ((0 : Int) ≤ m ∧ (m : Int) ≤ (gx - 1)))) rfl rfl rfl q10 (o_move (v := (.int .i64 n)) rfl) ?_
      refine L.gv (j := 10) (d₁ := 18) (b := !(decide ((0 : Int) ≤ m ∧ (m : Int) ≤ (gx - 1)))) rfl rfl rfl q10 (o_fieldAddr (b := b1) (off := 0) (o := 1) (run_fieldAt (f := 1) (fld := { name := "High", type := 2, offset := 1, embedded := false, tag := "", pkgPath := "", byteOffset := 8 }) Try.underlying27 rfl Try.sizeOf2 (Nat.succ_ne_zero _)) rfl) ?_
      refine L.gv (j := 10) (d₁ := 18) (b := !(decide ((0 : Int) ≤ m ∧ (m : Int) ≤ (gx - 1)))) rfl rfl rfl q10 (o_load (b := b1) (off := 0 + 1) (v := (.int .i64 gy)) Try.isAgg2 rfl (Rd.of hb6 rfl) rfl) ?_
      refine L.gv (j := 10) (d₁ := 18) (b := !(decide ((0 : Int) ≤ m ∧ (m : Int) ≤ (gx - 1)))) rfl rfl rfl q10 (o_isub (a := gy) (b := 1) (c := gy - 1) rfl rfl (by rw [IntWalk.i64_in _ (by omega)]; try omega)) ?_
      refine L.gv (j := 10) (d₁ := 18) (b := !(decide ((0 : Int) ≤ m ∧ (m : Int) ≤ (gx - 1)))) rfl rfl rfl q10 (v := (.bool (decide ((0 : Int) ≤ n ∧ (n : Int) ≤ (gy - 1))))) (op_call [(.int .i64 n), (.int .i64 0), (.int .i64 (gy - 1))] Try.call47 rfl (withinS n 0 (gy - 1))) ?_
      refine L.gv (j := 10) (d₁ := 18) (b := !(decide ((0 : Int) ≤ m ∧ (m : Int) ≤ (gx - 1)))) rfl rfl rfl q10 (o_not (b := decide ((0 : Int) ≤ n ∧ (n : Int) ≤ (gy - 1))) rfl rfl) ?_
      refine L.v (o_pickF (b := !(decide ((0 : Int) ≤ m ∧ (m : Int) ≤ (gx - 1)))) (v := (.bool (!(decide ((0 : Int) ≤ n ∧ (n : Int) ≤ (gy - 1)))))) rfl q10 rfl) ?_
      refine L.nil ?_
      refine W.cond (b := !(decide ((0 : Int) ≤ n ∧ (n : Int) ≤ (gy - 1)))) rfl (fun q13 => ?_) (fun q13 => ?_)
      ·
        have a14 : ¬ ((0 : Int) ≤ n ∧ (n : Int) ≤ (gy - 1)) := of_decide_eq_false (bn_t q13)
        refine W.seq ?_
        refine W.region ?_
        refine L.v (o_assign (v := (.float .f32 0)) rfl) ?_
        refine L.v (o_assign (v := (.bool false)) rfl) ?_
        refine L.nil ?_
        refine W.ret ?_
        exact RetK.two σ (.float .f32 0) (.bool false) rfl rfl rfl rfl rfl ehx5 ⟨by first | (rw [numF_yes (by omega), numB_yes (by omega)]) | (rw [numF_no (by omega), numB_no (by omega)]), rfl⟩
      ·
        have a15 : (0 : Int) ≤ n ∧ (n : Int) ≤ (gy - 1) := of_decide_eq_true (bn_f q13)
        refine W.skip ?_
        refine W.seq ?_
        obtain ⟨w, rfl⟩ : ∃ w : Nat, gx = (w : Int) := ⟨gx.toNat, by omega⟩
        obtain ⟨h, rfl⟩ : ∃ h : Nat, gy = (h : Int) := ⟨gy.toNat, by omega⟩
        obtain ⟨m', rfl⟩ : ∃ m' : Nat, m = (m' : Int) := ⟨m.toNat, by omega⟩
        obtain ⟨n', rfl⟩ : ∃ n' : Nat, n = (n' : Int) := ⟨n.toNat, by omega⟩
        refine W.region ?_
        refine L.v (o_move (v := (.int .i64 (m' : Int))) rfl) ?_
        refine L.v (o_move (v := (.int .i64 (n' : Int))) rfl) ?_
        refine L.v (v := (.float .f32 (numV w h m' n'))) (op_call [(.pointer (some ⟨b1, 0, none⟩)), (.int .i64 (m' : Int)), (.int .i64 (n' : Int))] Try.call48 rfl (specNum b1 _ w h hb6 m' n' (by omega) (by omega) (by omega) (by omega))) ?_
        refine L.v (o_assign (v := (.float .f32 (numV w h m' n'))) rfl) ?_
        refine L.v (o_assign (v := (.bool true)) rfl) ?_
        refine L.nil ?_
        refine W.ret ?_
        exact RetK.two σ (.float .f32 (numV w h m' n')) (.bool true) rfl rfl rfl rfl rfl ehx5 ⟨by first | (rw [numF_yes (by omega), numB_yes (by omega)]) | (rw [numF_no (by omega), numB_no (by omega)]), rfl⟩

theorem implMode {w0 : World} {σ : Sg} (gx gy m n : Int) :
    FnV Try.prog w0 13 [(.agg #[(.int .i64 gx), (.int .i64 gy)]), (.int .i64 m), (.int .i64 n)] σ (.tuple #[.float .f32 (numF gx gy m n), .bool (numB gx gy m n)]) := by
  unfold FnV
  refine Fn.of_W 31 Try.func13 rfl Try.ntmps13 rfl ?_
  refine W.seq ?_
  refine W.region ?_
  refine L.cons (o_box (v := (.agg #[(.int .i64 gx), (.int .i64 gy)])) rfl rfl [(.int .i64 gx), (.int .i64 gy)] rfl) ?_
  rintro _ _ ⟨b1, hf2, hw3, rfl, rfl⟩
  have hb6 : (sg σ b1 (27, [(.int .i64 gx), (.int .i64 gy)])) b1 = some (27, [(.int .i64 gx), (.int .i64 gy)]) := sg_eq _ _ _
  have hx5 : Ext σ (sg σ b1 (27, [(.int .i64 gx), (.int .i64 gy)])) := (Ext.refl _).sg hf2
  have ehx5 := Ext.trans (Ext.refl _) hx5
  generalize hgs4 : sg σ b1 (27, [(.int .i64 gx), (.int .i64 gy)]) = s4 at *
  clear hgs4
  refine L.v (o_assign (v := (.float .f32 0)) rfl) ?_
  refine L.v (o_assign (v := (.bool false)) rfl) ?_
  refine L.nil ?_
  refine W.seq ?_
  refine W.seq ?_
  refine W.region ?_
  refine L.v (o_loads (b := b1) (off := 0) (vs := [(.int .i64 gx), (.int .i64 gy)]) Try.isAgg27 Try.sizeOf27 rfl rfl (Rds.of hb6 (by intro j v hj; simpa using hj))) ?_
  refine L.v (v := (.bool (decide ((4 ≤ (gx : Int) ∧ (gx : Int) ≤ 16) ∧ 4 ≤ (gy : Int) ∧ (gy : Int) ≤ 16)))) (op_call [(.agg #[(.int .i64 gx), (.int .i64 gy)])] Try.call49 rfl (implIs gx gy)) ?_
  refine L.v (o_not (b := decide ((4 ≤ (gx : Int) ∧ (gx : Int) ≤ 16) ∧ 4 ≤ (gy : Int) ∧ (gy : Int) ≤ 16)) rfl rfl) ?_
  refine L.v (o_move (v := (.bool (!(decide ((4 ≤ (gx : Int) ∧ (gx : Int) ≤ 16) ∧ 4 ≤ (gy : Int) ∧ (gy : Int) ≤ 16))))) rfl) ?_
  rcases Bool.eq_false_or_eq_true (!(decide ((4 ≤ (gx : Int) ∧ (gx : Int) ≤ 16) ∧ 4 ≤ (gy : Int) ∧ (gy : Int) ≤ 16))) with q7 | q7
  ·
    have a8 : ¬ ((4 ≤ (gx : Int) ∧ (gx : Int) ≤ 16) ∧ 4 ≤ (gy : Int) ∧ (gy : Int) ≤ 16) := of_decide_eq_false (bn_t q7)
    refine L.gF (j := 3) (d₁ := 11) (b := !(decide ((4 ≤ (gx : Int) ∧ (gx : Int) ≤ 16) ∧ 4 ≤ (gy : Int) ∧ (gy : Int) ≤ 16))) rfl rfl rfl q7 ?_
    refine L.gF (j := 3) (d₁ := 11) (b := !(decide ((4 ≤ (gx : Int) ∧ (gx : Int) ≤ 16) ∧ 4 ≤ (gy : Int) ∧ (gy : Int) ≤ 16))) rfl rfl rfl q7 ?_
    refine L.gF (j := 3) (d₁ := 11) (b := !(decide ((4 ≤ (gx : Int) ∧ (gx : Int) ≤ 16) ∧ 4 ≤ (gy : Int) ∧ (gy : Int) ≤ 16))) rfl rfl rfl q7 ?_
    refine L.gF (j := 3) (d₁ := 11) (b := !(decide ((4 ≤ (gx : Int) ∧ (gx : Int) ≤ 16) ∧ 4 ≤ (gy : Int) ∧ (gy : Int) ≤ 16))) rfl rfl rfl q7 ?_
    refine L.gF (j := 3) (d₁ := 11) (b := !(decide ((4 ≤ (gx : Int) ∧ (gx : Int) ≤ 16) ∧ 4 ≤ (gy : Int) ∧ (gy : Int) ≤ 16))) rfl rfl rfl q7 ?_
    refine L.gF (j := 3) (d₁ := 11) (b := !(decide ((4 ≤ (gx : Int) ∧ (gx : Int) ≤ 16) ∧ 4 ≤ (gy : Int) ∧ (gy : Int) ≤ 16))) rfl rfl rfl q7 ?_
    refine L.v (o_pickT (b := !(decide ((4 ≤ (gx : Int) ∧ (gx : Int) ≤ 16) ∧ 4 ≤ (gy : Int) ∧ (gy : Int) ≤ 16))) (v := (.bool true)) rfl q7 rfl) ?_
    refine L.v (o_move (v := (.bool true)) rfl) ?_
    refine L.gF (j := 11) (d₁ := 19) (b := true) rfl rfl rfl rfl ?_
    refine L.gF (j := 11) (d₁ := 19) (b := true) rfl rfl rfl rfl ?_
    refine L.gF (j := 11) (d₁ := 19) (b := true) rfl rfl rfl rfl ?_
    refine L.gF (j := 11) (d₁ := 19) (b := true) rfl rfl rfl rfl ?_
    refine L.gF (j := 11) (d₁ := 19) (b := true) rfl rfl rfl rfl ?_
    refine L.gF (j := 11) (d₁ := 19) (b := true) rfl rfl rfl rfl ?_
    refine L.v (o_pickT (b := true) (v := (.bool true)) rfl rfl rfl) ?_
    refine L.nil ?_
    refine W.condT (b := true) rfl rfl ?_
    refine W.seq ?_
    refine W.region ?_
    refine L.v (o_assign (v := (.float .f32 0)) rfl) ?_
    refine L.v (o_assign (v := (.bool false)) rfl) ?_
    refine L.nil ?_
    refine W.ret ?_
    exact RetK.two σ (.float .f32 0) (.bool false) rfl rfl rfl rfl rfl ehx5 ⟨by first | (rw [numF_yes (by omega), numB_yes (by omega)]) | (rw [numF_no (by omega), numB_no (by omega)]), rfl⟩
  ·
    have a9 : (4 ≤ (gx : Int) ∧ (gx : Int) ≤ 16) ∧ 4 ≤ (gy : Int) ∧ (gy : Int) ≤ 16 := of_decide_eq_true (bn_f q7)
    refine L.gv (j := 3) (d₁ := 11) (b := !(decide ((4 ≤ (gx : Int) ∧ (gx : Int) ≤ 16) ∧ 4 ≤ (gy : Int) ∧ (gy : Int) ≤ 16))) rfl rfl rfl q7 (o_move (v := (.int .i64 m)) rfl) ?_
    refine L.gv (j := 3) (d₁ := 11) (b := !(decide ((4 ≤ (gx : Int) ∧ (gx : Int) ≤ 16) ∧ 4 ≤ (gy : Int) ∧ (gy : Int) ≤ 16))) rfl rfl rfl q7 (o_fieldAddr (b := b1) (off := 0) (o := 0) (run_fieldAt (f := 0) (fld := { name := "Wide", type := 2, offset := 0, embedded := false, tag := "", pkgPath := "", byteOffset := 0 }) Try.underlying27 rfl Try.sizeOf2 (Nat.succ_ne_zero _)) rfl) ?_
    refine L.gv (j := 3) (d₁ := 11) (b := !(decide ((4 ≤ (gx : Int) ∧ (gx : Int) ≤ 16) ∧ 4 ≤ (gy : Int) ∧ (gy : Int) ≤ 16))) rfl rfl rfl q7 (o_load (b := b1) (off := 0 + 0) (v := (.int .i64 gx)) Try.isAgg2 rfl (Rd.of hb6 rfl) rfl) ?_
    refine L.gv (j := 3) (d₁ := 11) (b := !(decide ((4 ≤ (gx : Int) ∧ (gx : Int) ≤ 16) ∧ 4 ≤ (gy : Int) ∧ (gy : Int) ≤ 16))) rfl rfl rfl q7 (o_isub (a := gx) (b := 1) (c := gx - 1) rfl rfl (by rw [IntWalk.i64_in _ (by omega)]; try omega)) ?_
    refine L.gv (j := 3) (d₁ := 11) (b := !(decide ((4 ≤ (gx : Int) ∧ (gx : Int) ≤ 16) ∧ 4 ≤ (gy : Int) ∧ (gy : Int) ≤ 16))) rfl rfl rfl q7 (v := (.bool (decide ((0 : Int) ≤ m ∧ (m : Int) ≤ (gx - 1))))) (op_call [(.int .i64 m), (.int .i64 0), (.int .i64 (gx - 1))] Try.call50 rfl (withinI m 0 (gx - 1))) ?_
    refine L.gv (j := 3) (d₁ := 11) (b := !(decide ((4 ≤ (gx : Int) ∧ (gx : Int) ≤ 16) ∧ 4 ≤ (gy : Int) ∧ (gy : Int) ≤ 16))) rfl rfl rfl q7 (o_not (b := decide ((0 : Int) ≤ m ∧ (m : Int) ≤ (gx - 1))) rfl rfl) ?_
    refine L.v (o_pickF (b := !(decide ((4 ≤ (gx : Int) ∧ (gx : Int) ≤ 16) ∧ 4 ≤ (gy : Int) ∧ (gy : Int) ≤ 16))) (v := (.bool (!(decide ((0 : Int) ≤ m ∧ (m : Int) ≤ (gx - 1)))))) rfl q7 rfl) ?_
    refine L.v (o_move (v := (.bool (!(decide ((0 : Int) ≤ m ∧ (m : Int) ≤ (gx - 1)))))) rfl) ?_
    rcases Bool.eq_false_or_eq_true (!(decide ((0 : Int) ≤ m ∧ (m : Int) ≤ (gx - 1)))) with q10 | q10
    ·
      have a11 : ¬ ((0 : Int) ≤ m ∧ (m : Int) ≤ (gx - 1)) := of_decide_eq_false (bn_t q10)
      refine L.gF (j := 11) (d₁ := 19) (b := !(decide ((0 : Int) ≤ m ∧ (m : Int) ≤ (gx - 1)))) rfl rfl rfl q10 ?_
      refine L.gF (j := 11) (d₁ := 19) (b := !(decide ((0 : Int) ≤ m ∧ (m : Int) ≤ (gx - 1)))) rfl rfl rfl q10 ?_
      refine L.gF (j := 11) (d₁ := 19) (b := !(decide ((0 : Int) ≤ m ∧ (m : Int) ≤ (gx - 1)))) rfl rfl rfl q10 ?_
      refine L.gF (j := 11) (d₁ := 19) (b := !(decide ((0 : Int) ≤ m ∧ (m : Int) ≤ (gx - 1)))) rfl rfl rfl q10 ?_
      refine L.gF (j := 11) (d₁ := 19) (b := !(decide ((0 : Int) ≤ m ∧ (m : Int) ≤ (gx - 1)))) rfl rfl rfl q10 ?_
      refine L.gF (j := 11) (d₁ := 19) (b := !(decide ((0 : Int) ≤ m ∧ (m : Int) ≤ (gx - 1)))) rfl rfl rfl q10 ?_
      refine L.v (o_pickT (b := !(decide ((0 : Int) ≤ m ∧ (m : Int) ≤ (gx - 1)))) (v := (.bool true)) rfl q10 rfl) ?_
      refine L.nil ?_
      refine W.condT (b := true) rfl rfl ?_
      refine W.seq ?_
      refine W.region ?_
      refine L.v (o_assign (v := (.float .f32 0)) rfl) ?_
      refine L.v (o_assign (v := (.bool false)) rfl) ?_
      refine L.nil ?_
      refine W.ret ?_
      exact RetK.two σ (.float .f32 0) (.bool false) rfl rfl rfl rfl rfl ehx5 ⟨by first | (rw [numF_yes (by omega), numB_yes (by omega)]) | (rw [numF_no (by omega), numB_no (by omega)]), rfl⟩
    ·
      have a12 : (0 : Int) ≤ m ∧ (m : Int) ≤ (gx - 1) := of_decide_eq_true (bn_f q10)
      refine L.gv (j := 11) (d₁ := 19) (b := !(decide ((0 : Int) ≤ m ∧ (m : Int) ≤ (gx - 1)))) rfl rfl rfl q10 (o_move (v := (.int .i64 n)) rfl) ?_
      refine L.gv (j := 11) (d₁ := 19) (b := !(decide ((0 : Int) ≤ m ∧ (m : Int) ≤ (gx - 1)))) rfl rfl rfl q10 (o_fieldAddr (b := b1) (off := 0) (o := 1) (run_fieldAt (f := 1) (fld := { name := "High", type := 2, offset := 1, embedded := false, tag := "", pkgPath := "", byteOffset := 8 }) Try.underlying27 rfl Try.sizeOf2 (Nat.succ_ne_zero _)) rfl) ?_
      refine L.gv (j := 11) (d₁ := 19) (b := !(decide ((0 : Int) ≤ m ∧ (m : Int) ≤ (gx - 1)))) rfl rfl rfl q10 (o_load (b := b1) (off := 0 + 1) (v := (.int .i64 gy)) Try.isAgg2 rfl (Rd.of hb6 rfl) rfl) ?_
      refine L.gv (j := 11) (d₁ := 19) (b := !(decide ((0 : Int) ≤ m ∧ (m : Int) ≤ (gx - 1)))) rfl rfl rfl q10 (o_isub (a := gy) (b := 1) (c := gy - 1) rfl rfl (by rw [IntWalk.i64_in _ (by omega)]; try omega)) ?_
      refine L.gv (j := 11) (d₁ := 19) (b := !(decide ((0 : Int) ≤ m ∧ (m : Int) ≤ (gx - 1)))) rfl rfl rfl q10 (v := (.bool (decide ((0 : Int) ≤ n ∧ (n : Int) ≤ (gy - 1))))) (op_call [(.int .i64 n), (.int .i64 0), (.int .i64 (gy - 1))] Try.call50 rfl (withinI n 0 (gy - 1))) ?_
      refine L.gv (j := 11) (d₁ := 19) (b := !(decide ((0 : Int) ≤ m ∧ (m : Int) ≤ (gx - 1)))) rfl rfl rfl q10 (o_not (b := decide ((0 : Int) ≤ n ∧ (n : Int) ≤ (gy - 1))) rfl rfl) ?_
      refine L.v (o_pickF (b := !(decide ((0 : Int) ≤ m ∧ (m : Int) ≤ (gx - 1)))) (v := (.bool (!(decide ((0 : Int) ≤ n ∧ (n : Int) ≤ (gy - 1)))))) rfl q10 rfl) ?_
      refine L.nil ?_
      refine W.cond (b := !(decide ((0 : Int) ≤ n ∧ (n : Int) ≤ (gy - 1)))) rfl (fun q13 => ?_) (fun q13 => ?_)
      ·
        have a14 : ¬ ((0 : Int) ≤ n ∧ (n : Int) ≤ (gy - 1)) := of_decide_eq_false (bn_t q13)
        refine W.seq ?_
        refine W.region ?_
        refine L.v (o_assign (v := (.float .f32 0)) rfl) ?_
        refine L.v (o_assign (v := (.bool false)) rfl) ?_
        refine L.nil ?_
        refine W.ret ?_
        exact RetK.two σ (.float .f32 0) (.bool false) rfl rfl rfl rfl rfl ehx5 ⟨by first | (rw [numF_yes (by omega), numB_yes (by omega)]) | (rw [numF_no (by omega), numB_no (by omega)]), rfl⟩
      ·
        have a15 : (0 : Int) ≤ n ∧ (n : Int) ≤ (gy - 1) := of_decide_eq_true (bn_f q13)
        refine W.skip ?_
        refine W.seq ?_
        obtain ⟨w, rfl⟩ : ∃ w : Nat, gx = (w : Int) := ⟨gx.toNat, by omega⟩
        obtain ⟨h, rfl⟩ : ∃ h : Nat, gy = (h : Int) := ⟨gy.toNat, by omega⟩
        obtain ⟨m', rfl⟩ : ∃ m' : Nat, m = (m' : Int) := ⟨m.toNat, by omega⟩
        obtain ⟨n', rfl⟩ : ∃ n' : Nat, n = (n' : Int) := ⟨n.toNat, by omega⟩
        refine W.region ?_
        refine L.v (o_loads (b := b1) (off := 0) (vs := [(.int .i64 (w : Int)), (.int .i64 (h : Int))]) Try.isAgg27 Try.sizeOf27 rfl rfl (Rds.of hb6 (by intro j v hj; simpa using hj))) ?_
        refine L.v (o_move (v := (.int .i64 (m' : Int))) rfl) ?_
        refine L.v (o_move (v := (.int .i64 (n' : Int))) rfl) ?_
        refine L.v (v := (.float .f32 (numV w h m' n'))) (op_call [(.agg #[(.int .i64 (w : Int)), (.int .i64 (h : Int))]), (.int .i64 (m' : Int)), (.int .i64 (n' : Int))] Try.call51 rfl (implNum w h m' n' (by omega) (by omega) (by omega) (by omega))) ?_
        refine L.v (o_assign (v := (.float .f32 (numV w h m' n'))) rfl) ?_
        refine L.v (o_assign (v := (.bool true)) rfl) ?_
        refine L.nil ?_
        refine W.ret ?_
        exact RetK.two σ (.float .f32 (numV w h m' n')) (.bool true) rfl rfl rfl rfl rfl ehx5 ⟨by first | (rw [numF_yes (by omega), numB_yes (by omega)]) | (rw [numF_no (by omega), numB_no (by omega)]), rfl⟩

theorem lawMode {w0 : World} {σ : Sg} (gx gy m : Int) (bm : -9223372036854775808 ≤ m ∧ m ≤ 9223372036854775807) (n : Int) (bn : -9223372036854775808 ≤ n ∧ n ≤ 9223372036854775807) :
    Fn Try.prog w0 3 [(.agg #[(.int .i64 gx), (.int .i64 gy)]), (.int .i64 m), (.int .i64 n)] σ (fun u _ => u = .bool true) := by
  refine Fn.of_W 38 Try.func3 rfl Try.ntmps3 rfl ?_
  refine W.seq ?_
  refine W.region ?_
  refine L.cons (o_box (v := (.agg #[(.int .i64 gx), (.int .i64 gy)])) rfl rfl [(.int .i64 gx), (.int .i64 gy)] rfl) ?_
  rintro _ _ ⟨b1, hf2, hw3, rfl, rfl⟩
  have hb6 : (sg σ b1 (23, [(.int .i64 gx), (.int .i64 gy)])) b1 = some (23, [(.int .i64 gx), (.int .i64 gy)]) := sg_eq _ _ _
  have hx5 : Ext σ (sg σ b1 (23, [(.int .i64 gx), (.int .i64 gy)])) := (Ext.refl _).sg hf2
  have ehx5 := Ext.trans (Ext.refl _) hx5
  generalize hgs4 : sg σ b1 (23, [(.int .i64 gx), (.int .i64 gy)]) = s4 at *
  clear hgs4
  refine L.v (o_assign (v := (.bool false)) rfl) ?_
  refine L.nil ?_
  refine W.seq ?_
  refine W.region ?_
  refine L.v (o_loads (b := b1) (off := 0) (vs := [(.int .i64 gx), (.int .i64 gy)]) Try.isAgg23 Try.sizeOf23 rfl rfl (Rds.of hb6 (by intro j v hj; simpa using hj))) ?_
  refine L.v (v := (.agg #[(.int .i64 gx), (.int .i64 gy)])) (op_call [(.agg #[(.int .i64 gx), (.int .i64 gy)])] Try.call12 rfl (toGrid_c gx gy)) ?_
  refine L.v (o_move (v := (.int .i64 m)) rfl) ?_
  refine L.v (o_move (v := (.int .i64 n)) rfl) ?_
  refine L.v (v := (.tuple #[(.float .f32 (numF gx gy m n)), (.bool (numB gx gy m n))])) (op_call [(.agg #[(.int .i64 gx), (.int .i64 gy)]), (.int .i64 m), (.int .i64 n)] Try.call11 rfl (specMode gx gy m n)) ?_
  refine L.v (o_move (v := (.tuple #[(.float .f32 (numF gx gy m n)), (.bool (numB gx gy m n))])) rfl) ?_
  refine L.v (o_extract (vs := #[(.float .f32 (numF gx gy m n)), (.bool (numB gx gy m n))]) (v := (.float .f32 (numF gx gy m n))) rfl rfl rfl) ?_
  refine L.v (o_extract (vs := #[(.float .f32 (numF gx gy m n)), (.bool (numB gx gy m n))]) (v := (.bool (numB gx gy m n))) rfl rfl rfl) ?_
  refine L.v (o_assign (v := (.float .f32 (numF gx gy m n))) rfl) ?_
  refine L.v (o_assign (v := (.bool (numB gx gy m n))) rfl) ?_
  refine L.nil ?_
  refine W.seq ?_
  refine W.region ?_
  refine L.v (o_loads (b := b1) (off := 0) (vs := [(.int .i64 gx), (.int .i64 gy)]) Try.isAgg23 Try.sizeOf23 rfl rfl (Rds.of hb6 (by intro j v hj; simpa using hj))) ?_
  refine L.v (v := (.agg #[(.int .i64 gx), (.int .i64 gy)])) (op_call [(.agg #[(.int .i64 gx), (.int .i64 gy)])] Try.call12 rfl (toGrid_c gx gy)) ?_
  refine L.v (o_move (v := (.int .i64 m)) rfl) ?_
  refine L.v (o_move (v := (.int .i64 n)) rfl) ?_
  refine L.v (v := (.tuple #[(.float .f32 (numF gx gy m n)), (.bool (numB gx gy m n))])) (op_call [(.agg #[(.int .i64 gx), (.int .i64 gy)]), (.int .i64 m), (.int .i64 n)] Try.call13 rfl (implMode gx gy m n)) ?_
  refine L.v (o_move (v := (.tuple #[(.float .f32 (numF gx gy m n)), (.bool (numB gx gy m n))])) rfl) ?_
  refine L.v (o_extract (vs := #[(.float .f32 (numF gx gy m n)), (.bool (numB gx gy m n))]) (v := (.float .f32 (numF gx gy m n))) rfl rfl rfl) ?_
  refine L.v (o_extract (vs := #[(.float .f32 (numF gx gy m n)), (.bool (numB gx gy m n))]) (v := (.bool (numB gx gy m n))) rfl rfl rfl) ?_
  refine L.v (o_assign (v := (.float .f32 (numF gx gy m n))) rfl) ?_
  refine L.v (o_assign (v := (.bool (numB gx gy m n))) rfl) ?_
  refine L.nil ?_
  refine W.seq ?_
  refine W.seq ?_
  refine W.region ?_
  refine L.v (o_move (v := (.float .f32 (numF gx gy m n))) rfl) ?_
  refine L.v (o_cvFF (s := .f32) (d := .f64) (a := numF gx gy m n) (by rw [Try.underlying24]; rfl) Try.underlying30 rfl (okw (numF gx gy m n))) ?_
  refine L.v (o_move (v := (.float .f32 (numF gx gy m n))) rfl) ?_
  refine L.v (o_cvFF (s := .f32) (d := .f64) (a := numF gx gy m n) (by rw [Try.underlying24]; rfl) Try.underlying30 rfl (okw (numF gx gy m n))) ?_
  refine L.v (v := (.bool true)) (op_call [(.float .f64 (cvt .f32 .f64 (numF gx gy m n))), (.float .f64 (cvt .f32 .f64 (numF gx gy m n)))] Try.call14 rfl (sameFloat_c (cvt .f32 .f64 (numF gx gy m n)))) ?_
  refine L.v (o_not (b := true) (c := false) rfl rfl) ?_
  refine L.v (o_move (v := (.bool false)) rfl) ?_
  refine L.gv (j := 6) (d₁ := 33) (b := false) rfl rfl rfl rfl (o_move (v := (.bool (numB gx gy m n))) rfl) ?_
  refine L.gv (j := 6) (d₁ := 33) (b := false) rfl rfl rfl rfl (o_move (v := (.bool (numB gx gy m n))) rfl) ?_
  refine L.gv (j := 6) (d₁ := 33) (b := false) rfl rfl rfl rfl (o_bneq (a := numB gx gy m n) (b := numB gx gy m n) (c := false) Try.underlying4 rfl rfl (by simp)) ?_
  refine L.v (o_pickF (b := false) (v := (.bool false)) rfl rfl rfl) ?_
  refine L.nil ?_
  refine W.condF (b := false) rfl rfl ?_
  refine W.skip ?_
  refine W.seq ?_
  refine W.region ?_
  refine L.v (o_assign (v := (.bool true)) rfl) ?_
  refine L.nil ?_
  refine W.ret ?_
  exact RetK.one _ (.bool true) rfl rfl (Ext.refl _) rfl

end Go.Proofs.Ytnonlibekcacgaa.En
