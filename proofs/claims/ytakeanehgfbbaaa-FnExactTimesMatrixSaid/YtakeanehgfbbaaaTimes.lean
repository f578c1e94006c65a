/- TimesMatrix in the program and in the reference, and its law: what each call gives, for every two lists that can be read. -/
import Derived.Test.YtakeanehgfbbaaaLibb
import Derived.Test.YtakeanehgfbbaaaRows
namespace Go.Proofs.Ytakeanehgfbbaaa.En
open Go
set_option linter.unusedVariables false
def timesM (xs ys : List Nat) : List Nat :=
  [fop .add .f32 (fop .mul .f32 (xs.getD 0 0) (ys.getD 0 0)) (fop .mul .f32 (xs.getD 1 0) (ys.getD 2 0)),
    fop .add .f32 (fop .mul .f32 (xs.getD 0 0) (ys.getD 1 0)) (fop .mul .f32 (xs.getD 1 0) (ys.getD 3 0)),
    fop .add .f32 (fop .mul .f32 (xs.getD 2 0) (ys.getD 0 0)) (fop .mul .f32 (xs.getD 3 0) (ys.getD 2 0)),
    fop .add .f32 (fop .mul .f32 (xs.getD 2 0) (ys.getD 1 0)) (fop .mul .f32 (xs.getD 3 0) (ys.getD 3 0))]
def timesF (xs ys : List Nat) : List Nat := if xs.length = 4 ∧ ys.length = 4 then timesM xs ys else []
def timesB (xs ys : List Nat) : Bool := decide (xs.length = 4 ∧ ys.length = 4)
theorem timesF_yes {xs ys : List Nat} (h : xs.length = 4 ∧ ys.length = 4) : timesF xs ys = timesM xs ys := if_pos h
theorem timesF_no {xs ys : List Nat} (h : ¬ (xs.length = 4 ∧ ys.length = 4)) : timesF xs ys = [] := if_neg h
theorem timesB_yes {xs ys : List Nat} (h : xs.length = 4 ∧ ys.length = 4) : timesB xs ys = true := decide_eq_true h
theorem timesB_no {xs ys : List Nat} (h : ¬ (xs.length = 4 ∧ ys.length = 4)) : timesB xs ys = false := decide_eq_false h
theorem timesF_le (xs ys : List Nat) : (timesF xs ys).length ≤ 1048576 := by
  by_cases h : xs.length = 4 ∧ ys.length = 4
  · rw [timesF_yes h]; simp [timesM]
  · rw [timesF_no h]; simp
theorem specTimesM {w0 : World} {σ : Sg} (p : Option Addr) (c : Nat) (xs : List Nat) (hs : Sl σ 1 p (xs.map fl)) (q : Option Addr) (d : Nat) (ys : List Nat) (hq : Sl σ 1 q (ys.map fl)) (hx : xs.length = 4) (hy : ys.length = 4) :
    Fn Try.prog w0 39 [(.slice p xs.length c), (.slice q ys.length d)] σ (RetFS w0 σ 1 ((timesM xs ys).map fl) 4 id) := by
  refine Fn.of_W 66 Try.func39 rfl Try.ntmps39 rfl ?_
  refine W.seq ?_
  refine W.region ?_
  refine L.v (o_assign (v := (.slice none 0 0)) rfl) ?_
  refine L.nil ?_
  refine W.seq ?_
  obtain ⟨b1, o2, rfl, _⟩ := hs.elem 0 (by omega) 0
  obtain ⟨b3, o4, rfl, _⟩ := hq.elem 0 (by omega) 0
  refine W.draw [true, true, true, true, true, true, true, true, true, true, true, true, true, true, true, true, true, true, true, true, true, true, true, true, true, true, true, true, true, true, true, true, true, true, true, true, true, true, true, true, true, true, true, true, true, true, true, true, true, true, true, true, true, true, true, true, true, true, true, true, false, true] (fun s => Ext σ s) (by kernel_rfl) (by kernel_rfl) ?_
  refine DL.v (fun _ hD => o_move (v := (.slice (some ⟨b1, o2, none⟩) xs.length c)) rfl) ?_
  refine DL.v (fun _ hD => o_indexAddr (b := b1) (off := o2) (n := xs.length) (c := c) 0 Try.underlying22 Try.sizeOf23 rfl rfl (by omega)) ?_
  refine DL.v (fun _ hD => o_load (b := b1) (off := o2 + 0 * 1) (v := (.float .f32 (xs.getD 0 0))) Try.isAgg23 rfl (Rds.fst (Sl.at (Sl.ext hs hD) 0 (by omega) 0)) rfl) ?_
  refine DL.v (fun _ hD => o_move (v := (.slice (some ⟨b3, o4, none⟩) ys.length d)) rfl) ?_
  refine DL.v (fun _ hD => o_indexAddr (b := b3) (off := o4) (n := ys.length) (c := d) 0 Try.underlying22 Try.sizeOf23 rfl rfl (by omega)) ?_
  refine DL.v (fun _ hD => o_load (b := b3) (off := o4 + 0 * 1) (v := (.float .f32 (ys.getD 0 0))) Try.isAgg23 rfl (Rds.fst (Sl.at (Sl.ext hq hD) 0 (by omega) 0)) rfl) ?_
  refine DL.v (fun _ hD => o_farith (k := .f32) (a := xs.getD 0 0) (b := ys.getD 0 0) rfl rfl rfl) ?_
  refine DL.v (fun _ hD => o_move (v := (.slice (some ⟨b1, o2, none⟩) xs.length c)) rfl) ?_
  refine DL.v (fun _ hD => o_indexAddr (b := b1) (off := o2) (n := xs.length) (c := c) 1 Try.underlying22 Try.sizeOf23 rfl rfl (by omega)) ?_
  refine DL.v (fun _ hD => o_load (b := b1) (off := o2 + 1 * 1) (v := (.float .f32 (xs.getD 1 0))) Try.isAgg23 rfl (Rds.fst (Sl.at (Sl.ext hs hD) 1 (by omega) 0)) rfl) ?_
  refine DL.v (fun _ hD => o_move (v := (.slice (some ⟨b3, o4, none⟩) ys.length d)) rfl) ?_
  refine DL.v (fun _ hD => o_indexAddr (b := b3) (off := o4) (n := ys.length) (c := d) 2 Try.underlying22 Try.sizeOf23 rfl rfl (by omega)) ?_
  refine DL.v (fun _ hD => o_load (b := b3) (off := o4 + 2 * 1) (v := (.float .f32 (ys.getD 2 0))) Try.isAgg23 rfl (Rds.fst (Sl.at (Sl.ext hq hD) 2 (by omega) 0)) rfl) ?_
  refine DL.v (fun _ hD => o_farith (k := .f32) (a := xs.getD 1 0) (b := ys.getD 2 0) rfl rfl rfl) ?_
  refine DL.v (fun _ hD => o_farith (k := .f32) (a := fop .mul .f32 (xs.getD 0 0) (ys.getD 0 0)) (b := fop .mul .f32 (xs.getD 1 0) (ys.getD 2 0)) rfl rfl rfl) ?_
  refine DL.v (fun _ hD => o_move (v := (.slice (some ⟨b1, o2, none⟩) xs.length c)) rfl) ?_
  refine DL.v (fun _ hD => o_indexAddr (b := b1) (off := o2) (n := xs.length) (c := c) 0 Try.underlying22 Try.sizeOf23 rfl rfl (by omega)) ?_
  refine DL.v (fun _ hD => o_load (b := b1) (off := o2 + 0 * 1) (v := (.float .f32 (xs.getD 0 0))) Try.isAgg23 rfl (Rds.fst (Sl.at (Sl.ext hs hD) 0 (by omega) 0)) rfl) ?_
  refine DL.v (fun _ hD => o_move (v := (.slice (some ⟨b3, o4, none⟩) ys.length d)) rfl) ?_
  refine DL.v (fun _ hD => o_indexAddr (b := b3) (off := o4) (n := ys.length) (c := d) 1 Try.underlying22 Try.sizeOf23 rfl rfl (by omega)) ?_
  refine DL.v (fun _ hD => o_load (b := b3) (off := o4 + 1 * 1) (v := (.float .f32 (ys.getD 1 0))) Try.isAgg23 rfl (Rds.fst (Sl.at (Sl.ext hq hD) 1 (by omega) 0)) rfl) ?_
  refine DL.v (fun _ hD => o_farith (k := .f32) (a := xs.getD 0 0) (b := ys.getD 1 0) rfl rfl rfl) ?_
  refine DL.v (fun _ hD => o_move (v := (.slice (some ⟨b1, o2, none⟩) xs.length c)) rfl) ?_
  refine DL.v (fun _ hD => o_indexAddr (b := b1) (off := o2) (n := xs.length) (c := c) 1 Try.underlying22 Try.sizeOf23 rfl rfl (by omega)) ?_
  refine DL.v (fun _ hD => o_load (b := b1) (off := o2 + 1 * 1) (v := (.float .f32 (xs.getD 1 0))) Try.isAgg23 rfl (Rds.fst (Sl.at (Sl.ext hs hD) 1 (by omega) 0)) rfl) ?_
  refine DL.v (fun _ hD => o_move (v := (.slice (some ⟨b3, o4, none⟩) ys.length d)) rfl) ?_
  refine DL.v (fun _ hD => o_indexAddr (b := b3) (off := o4) (n := ys.length) (c := d) 3 Try.underlying22 Try.sizeOf23 rfl rfl (by omega)) ?_
  refine DL.v (fun _ hD => o_load (b := b3) (off := o4 + 3 * 1) (v := (.float .f32 (ys.getD 3 0))) Try.isAgg23 rfl (Rds.fst (Sl.at (Sl.ext hq hD) 3 (by omega) 0)) rfl) ?_
  refine DL.v (fun _ hD => o_farith (k := .f32) (a := xs.getD 1 0) (b := ys.getD 3 0) rfl rfl rfl) ?_
  refine DL.v (fun _ hD => o_farith (k := .f32) (a := fop .mul .f32 (xs.getD 0 0) (ys.getD 1 0)) (b := fop .mul .f32 (xs.getD 1 0) (ys.getD 3 0)) rfl rfl rfl) ?_
  refine DL.v (fun _ hD => o_move (v := (.slice (some ⟨b1, o2, none⟩) xs.length c)) rfl) ?_
  refine DL.v (fun _ hD => o_indexAddr (b := b1) (off := o2) (n := xs.length) (c := c) 2 Try.underlying22 Try.sizeOf23 rfl rfl (by omega)) ?_
  refine DL.v (fun _ hD => o_load (b := b1) (off := o2 + 2 * 1) (v := (.float .f32 (xs.getD 2 0))) Try.isAgg23 rfl (Rds.fst (Sl.at (Sl.ext hs hD) 2 (by omega) 0)) rfl) ?_
  refine DL.v (fun _ hD => o_move (v := (.slice (some ⟨b3, o4, none⟩) ys.length d)) rfl) ?_
  refine DL.v (fun _ hD => o_indexAddr (b := b3) (off := o4) (n := ys.length) (c := d) 0 Try.underlying22 Try.sizeOf23 rfl rfl (by omega)) ?_
  refine DL.v (fun _ hD => o_load (b := b3) (off := o4 + 0 * 1) (v := (.float .f32 (ys.getD 0 0))) Try.isAgg23 rfl (Rds.fst (Sl.at (Sl.ext hq hD) 0 (by omega) 0)) rfl) ?_
  refine DL.v (fun _ hD => o_farith (k := .f32) (a := xs.getD 2 0) (b := ys.getD 0 0) rfl rfl rfl) ?_
  refine DL.v (fun _ hD => o_move (v := (.slice (some ⟨b1, o2, none⟩) xs.length c)) rfl) ?_
  refine DL.v (fun _ hD => o_indexAddr (b := b1) (off := o2) (n := xs.length) (c := c) 3 Try.underlying22 Try.sizeOf23 rfl rfl (by omega)) ?_
  refine DL.v (fun _ hD => o_load (b := b1) (off := o2 + 3 * 1) (v := (.float .f32 (xs.getD 3 0))) Try.isAgg23 rfl (Rds.fst (Sl.at (Sl.ext hs hD) 3 (by omega) 0)) rfl) ?_
  refine DL.v (fun _ hD => o_move (v := (.slice (some ⟨b3, o4, none⟩) ys.length d)) rfl) ?_
  refine DL.v (fun _ hD => o_indexAddr (b := b3) (off := o4) (n := ys.length) (c := d) 2 Try.underlying22 Try.sizeOf23 rfl rfl (by omega)) ?_
  refine DL.v (fun _ hD => o_load (b := b3) (off := o4 + 2 * 1) (v := (.float .f32 (ys.getD 2 0))) Try.isAgg23 rfl (Rds.fst (Sl.at (Sl.ext hq hD) 2 (by omega) 0)) rfl) ?_
  refine DL.v (fun _ hD => o_farith (k := .f32) (a := xs.getD 3 0) (b := ys.getD 2 0) rfl rfl rfl) ?_
  refine DL.v (fun _ hD => o_farith (k := .f32) (a := fop .mul .f32 (xs.getD 2 0) (ys.getD 0 0)) (b := fop .mul .f32 (xs.getD 3 0) (ys.getD 2 0)) rfl rfl rfl) ?_
  refine DL.v (fun _ hD => o_move (v := (.slice (some ⟨b1, o2, none⟩) xs.length c)) rfl) ?_
  refine DL.v (fun _ hD => o_indexAddr (b := b1) (off := o2) (n := xs.length) (c := c) 2 Try.underlying22 Try.sizeOf23 rfl rfl (by omega)) ?_
  refine DL.v (fun _ hD => o_load (b := b1) (off := o2 + 2 * 1) (v := (.float .f32 (xs.getD 2 0))) Try.isAgg23 rfl (Rds.fst (Sl.at (Sl.ext hs hD) 2 (by omega) 0)) rfl) ?_
  refine DL.v (fun _ hD => o_move (v := (.slice (some ⟨b3, o4, none⟩) ys.length d)) rfl) ?_
  refine DL.v (fun _ hD => o_indexAddr (b := b3) (off := o4) (n := ys.length) (c := d) 1 Try.underlying22 Try.sizeOf23 rfl rfl (by omega)) ?_
  refine DL.v (fun _ hD => o_load (b := b3) (off := o4 + 1 * 1) (v := (.float .f32 (ys.getD 1 0))) Try.isAgg23 rfl (Rds.fst (Sl.at (Sl.ext hq hD) 1 (by omega) 0)) rfl) ?_
  refine DL.v (fun _ hD => o_farith (k := .f32) (a := xs.getD 2 0) (b := ys.getD 1 0) rfl rfl rfl) ?_
  refine DL.v (fun _ hD => o_move (v := (.slice (some ⟨b1, o2, none⟩) xs.length c)) rfl) ?_
  refine DL.v (fun _ hD => o_indexAddr (b := b1) (off := o2) (n := xs.length) (c := c) 3 Try.underlying22 Try.sizeOf23 rfl rfl (by omega)) ?_
  refine DL.v (fun _ hD => o_load (b := b1) (off := o2 + 3 * 1) (v := (.float .f32 (xs.getD 3 0))) Try.isAgg23 rfl (Rds.fst (Sl.at (Sl.ext hs hD) 3 (by omega) 0)) rfl) ?_
  refine DL.v (fun _ hD => o_move (v := (.slice (some ⟨b3, o4, none⟩) ys.length d)) rfl) ?_
  refine DL.v (fun _ hD => o_indexAddr (b := b3) (off := o4) (n := ys.length) (c := d) 3 Try.underlying22 Try.sizeOf23 rfl rfl (by omega)) ?_
  refine DL.v (fun _ hD => o_load (b := b3) (off := o4 + 3 * 1) (v := (.float .f32 (ys.getD 3 0))) Try.isAgg23 rfl (Rds.fst (Sl.at (Sl.ext hq hD) 3 (by omega) 0)) rfl) ?_
  refine DL.v (fun _ hD => o_farith (k := .f32) (a := xs.getD 3 0) (b := ys.getD 3 0) rfl rfl rfl) ?_
  refine DL.v (fun _ hD => o_farith (k := .f32) (a := fop .mul .f32 (xs.getD 2 0) (ys.getD 1 0)) (b := fop .mul .f32 (xs.getD 3 0) (ys.getD 3 0)) rfl rfl rfl) ?_
  refine DL.e (Ext.refl _) (o_buildSlice (info := Try.t23) (z := .float .f32 0) [(.float .f32 (fop .add .f32 (fop .mul .f32 (xs.getD 0 0) (ys.getD 0 0)) (fop .mul .f32 (xs.getD 1 0) (ys.getD 2 0)))), (.float .f32 (fop .add .f32 (fop .mul .f32 (xs.getD 0 0) (ys.getD 1 0)) (fop .mul .f32 (xs.getD 1 0) (ys.getD 3 0)))), (.float .f32 (fop .add .f32 (fop .mul .f32 (xs.getD 2 0) (ys.getD 0 0)) (fop .mul .f32 (xs.getD 3 0) (ys.getD 2 0)))), (.float .f32 (fop .add .f32 (fop .mul .f32 (xs.getD 2 0) (ys.getD 1 0)) (fop .mul .f32 (xs.getD 3 0) (ys.getD 3 0))))] Try.underlying22 Try.type23 rfl rfl rfl rfl (by decide) rfl rfl (by simp [Value.oneCell'])) ?_
  rintro _ _ ⟨b5, hf6, hw7, rfl, rfl⟩
  refine DL.v (fun _ hD => o_assign (v := (.slice (some ⟨b5, 0, none⟩) 4 4)) rfl) ?_
  refine DL.nil ((Ext.refl _).sg hf6) ?_
  refine W.ret ?_
  rw [show [(.float .f32 (fop .add .f32 (fop .mul .f32 (xs.getD 0 0) (ys.getD 0 0)) (fop .mul .f32 (xs.getD 1 0) (ys.getD 2 0)))), (.float .f32 (fop .add .f32 (fop .mul .f32 (xs.getD 0 0) (ys.getD 1 0)) (fop .mul .f32 (xs.getD 1 0) (ys.getD 3 0)))), (.float .f32 (fop .add .f32 (fop .mul .f32 (xs.getD 2 0) (ys.getD 0 0)) (fop .mul .f32 (xs.getD 3 0) (ys.getD 2 0)))), (.float .f32 (fop .add .f32 (fop .mul .f32 (xs.getD 2 0) (ys.getD 1 0)) (fop .mul .f32 (xs.getD 3 0) (ys.getD 3 0))))] = ((timesM xs ys).map fl).flatten from rfl]
  exact RetK.one _ (.slice (some ⟨b5, 0, none⟩) 4 4) rfl rfl (Ext.refl _) ⟨_, 4, rfl, Fsl.of_newB hf6 hw7 (by simp [fl])⟩

theorem implTimesM {w0 : World} {σ : Sg} (p : Option Addr) (c : Nat) (xs : List Nat) (hs : Sl σ 1 p (xs.map fl)) (q : Option Addr) (d : Nat) (ys : List Nat) (hq : Sl σ 1 q (ys.map fl)) (hx : xs.length = 4) (hy : ys.length = 4) :
    Fn Try.prog w0 40 [(.slice p xs.length c), (.slice q ys.length d)] σ (RetFS w0 σ 1 ((timesM xs ys).map fl) 4 id) := by
  refine Fn.of_W 66 Try.func40 rfl Try.ntmps40 rfl ?_
  refine W.seq ?_
  refine W.region ?_
  refine L.v (o_assign (v := (.slice none 0 0)) rfl) ?_
  refine L.nil ?_
  refine W.seq ?_
  obtain ⟨b1, o2, rfl, _⟩ := hs.elem 0 (by omega) 0
  obtain ⟨b3, o4, rfl, _⟩ := hq.elem 0 (by omega) 0
  refine W.draw [true, true, true, true, true, true, true, true, true, true, true, true, true, true, true, true, true, true, true, true, true, true, true, true, true, true, true, true, true, true, true, true, true, true, true, true, true, true, true, true, true, true, true, true, true, true, true, true, true, true, true, true, true, true, true, true, true, true, true, true, false, true] (fun s => Ext σ s) (by kernel_rfl) (by kernel_rfl) ?_
  refine DL.v (fun _ hD => o_move (v := (.slice (some ⟨b1, o2, none⟩) xs.length c)) rfl) ?_
  refine DL.v (fun _ hD => o_indexAddr (b := b1) (off := o2) (n := xs.length) (c := c) 0 Try.underlying22 Try.sizeOf23 rfl rfl (by omega)) ?_
  refine DL.v (fun _ hD => o_load (b := b1) (off := o2 + 0 * 1) (v := (.float .f32 (xs.getD 0 0))) Try.isAgg23 rfl (Rds.fst (Sl.at (Sl.ext hs hD) 0 (by omega) 0)) rfl) ?_
  refine DL.v (fun _ hD => o_move (v := (.slice (some ⟨b3, o4, none⟩) ys.length d)) rfl) ?_
  refine DL.v (fun _ hD => o_indexAddr (b := b3) (off := o4) (n := ys.length) (c := d) 0 Try.underlying22 Try.sizeOf23 rfl rfl (by omega)) ?_
  refine DL.v (fun _ hD => o_load (b := b3) (off := o4 + 0 * 1) (v := (.float .f32 (ys.getD 0 0))) Try.isAgg23 rfl (Rds.fst (Sl.at (Sl.ext hq hD) 0 (by omega) 0)) rfl) ?_
  refine DL.v (fun _ hD => o_farith (k := .f32) (a := xs.getD 0 0) (b := ys.getD 0 0) rfl rfl rfl) ?_
  refine DL.v (fun _ hD => o_move (v := (.slice (some ⟨b1, o2, none⟩) xs.length c)) rfl) ?_
  refine DL.v (fun _ hD => o_indexAddr (b := b1) (off := o2) (n := xs.length) (c := c) 1 Try.underlying22 Try.sizeOf23 rfl rfl (by omega)) ?_
  refine DL.v (fun _ hD => o_load (b := b1) (off := o2 + 1 * 1) (v := (.float .f32 (xs.getD 1 0))) Try.isAgg23 rfl (Rds.fst (Sl.at (Sl.ext hs hD) 1 (by omega) 0)) rfl) ?_
  refine DL.v (fun _ hD => o_move (v := (.slice (some ⟨b3, o4, none⟩) ys.length d)) rfl) ?_
  refine DL.v (fun _ hD => o_indexAddr (b := b3) (off := o4) (n := ys.length) (c := d) 2 Try.underlying22 Try.sizeOf23 rfl rfl (by omega)) ?_
  refine DL.v (fun _ hD => o_load (b := b3) (off := o4 + 2 * 1) (v := (.float .f32 (ys.getD 2 0))) Try.isAgg23 rfl (Rds.fst (Sl.at (Sl.ext hq hD) 2 (by omega) 0)) rfl) ?_
  refine DL.v (fun _ hD => o_farith (k := .f32) (a := xs.getD 1 0) (b := ys.getD 2 0) rfl rfl rfl) ?_
  refine DL.v (fun _ hD => o_farith (k := .f32) (a := fop .mul .f32 (xs.getD 0 0) (ys.getD 0 0)) (b := fop .mul .f32 (xs.getD 1 0) (ys.getD 2 0)) rfl rfl rfl) ?_
  refine DL.v (fun _ hD => o_move (v := (.slice (some ⟨b1, o2, none⟩) xs.length c)) rfl) ?_
  refine DL.v (fun _ hD => o_indexAddr (b := b1) (off := o2) (n := xs.length) (c := c) 0 Try.underlying22 Try.sizeOf23 rfl rfl (by omega)) ?_
  refine DL.v (fun _ hD => o_load (b := b1) (off := o2 + 0 * 1) (v := (.float .f32 (xs.getD 0 0))) Try.isAgg23 rfl (Rds.fst (Sl.at (Sl.ext hs hD) 0 (by omega) 0)) rfl) ?_
  refine DL.v (fun _ hD => o_move (v := (.slice (some ⟨b3, o4, none⟩) ys.length d)) rfl) ?_
  refine DL.v (fun _ hD => o_indexAddr (b := b3) (off := o4) (n := ys.length) (c := d) 1 Try.underlying22 Try.sizeOf23 rfl rfl (by omega)) ?_
  refine DL.v (fun _ hD => o_load (b := b3) (off := o4 + 1 * 1) (v := (.float .f32 (ys.getD 1 0))) Try.isAgg23 rfl (Rds.fst (Sl.at (Sl.ext hq hD) 1 (by omega) 0)) rfl) ?_
  refine DL.v (fun _ hD => o_farith (k := .f32) (a := xs.getD 0 0) (b := ys.getD 1 0) rfl rfl rfl) ?_
  refine DL.v (fun _ hD => o_move (v := (.slice (some ⟨b1, o2, none⟩) xs.length c)) rfl) ?_
  refine DL.v (fun _ hD => o_indexAddr (b := b1) (off := o2) (n := xs.length) (c := c) 1 Try.underlying22 Try.sizeOf23 rfl rfl (by omega)) ?_
  refine DL.v (fun _ hD => o_load (b := b1) (off := o2 + 1 * 1) (v := (.float .f32 (xs.getD 1 0))) Try.isAgg23 rfl (Rds.fst (Sl.at (Sl.ext hs hD) 1 (by omega) 0)) rfl) ?_
  refine DL.v (fun _ hD => o_move (v := (.slice (some ⟨b3, o4, none⟩) ys.length d)) rfl) ?_
  refine DL.v (fun _ hD => o_indexAddr (b := b3) (off := o4) (n := ys.length) (c := d) 3 Try.underlying22 Try.sizeOf23 rfl rfl (by omega)) ?_
  refine DL.v (fun _ hD => o_load (b := b3) (off := o4 + 3 * 1) (v := (.float .f32 (ys.getD 3 0))) Try.isAgg23 rfl (Rds.fst (Sl.at (Sl.ext hq hD) 3 (by omega) 0)) rfl) ?_
  refine DL.v (fun _ hD => o_farith (k := .f32) (a := xs.getD 1 0) (b := ys.getD 3 0) rfl rfl rfl) ?_
  refine DL.v (fun _ hD => o_farith (k := .f32) (a := fop .mul .f32 (xs.getD 0 0) (ys.getD 1 0)) (b := fop .mul .f32 (xs.getD 1 0) (ys.getD 3 0)) rfl rfl rfl) ?_
  refine DL.v (fun _ hD => o_move (v := (.slice (some ⟨b1, o2, none⟩) xs.length c)) rfl) ?_
  refine DL.v (fun _ hD => o_indexAddr (b := b1) (off := o2) (n := xs.length) (c := c) 2 Try.underlying22 Try.sizeOf23 rfl rfl (by omega)) ?_
  refine DL.v (fun _ hD => o_load (b := b1) (off := o2 + 2 * 1) (v := (.float .f32 (xs.getD 2 0))) Try.isAgg23 rfl (Rds.fst (Sl.at (Sl.ext hs hD) 2 (by omega) 0)) rfl) ?_
  refine DL.v (fun _ hD => o_move (v := (.slice (some ⟨b3, o4, none⟩) ys.length d)) rfl) ?_
  refine DL.v (fun _ hD => o_indexAddr (b := b3) (off := o4) (n := ys.length) (c := d) 0 Try.underlying22 Try.sizeOf23 rfl rfl (by omega)) ?_
  refine DL.v (fun _ hD => o_load (b := b3) (off := o4 + 0 * 1) (v := (.float .f32 (ys.getD 0 0))) Try.isAgg23 rfl (Rds.fst (Sl.at (Sl.ext hq hD) 0 (by omega) 0)) rfl) ?_
  refine DL.v (fun _ hD => o_farith (k := .f32) (a := xs.getD 2 0) (b := ys.getD 0 0) rfl rfl rfl) ?_
  refine DL.v (fun _ hD => o_move (v := (.slice (some ⟨b1, o2, none⟩) xs.length c)) rfl) ?_
  refine DL.v (fun _ hD => o_indexAddr (b := b1) (off := o2) (n := xs.length) (c := c) 3 Try.underlying22 Try.sizeOf23 rfl rfl (by omega)) ?_
  refine DL.v (fun _ hD => o_load (b := b1) (off := o2 + 3 * 1) (v := (.float .f32 (xs.getD 3 0))) Try.isAgg23 rfl (Rds.fst (Sl.at (Sl.ext hs hD) 3 (by omega) 0)) rfl) ?_
  refine DL.v (fun _ hD => o_move (v := (.slice (some ⟨b3, o4, none⟩) ys.length d)) rfl) ?_
  refine DL.v (fun _ hD => o_indexAddr (b := b3) (off := o4) (n := ys.length) (c := d) 2 Try.underlying22 Try.sizeOf23 rfl rfl (by omega)) ?_
  refine DL.v (fun _ hD => o_load (b := b3) (off := o4 + 2 * 1) (v := (.float .f32 (ys.getD 2 0))) Try.isAgg23 rfl (Rds.fst (Sl.at (Sl.ext hq hD) 2 (by omega) 0)) rfl) ?_
  refine DL.v (fun _ hD => o_farith (k := .f32) (a := xs.getD 3 0) (b := ys.getD 2 0) rfl rfl rfl) ?_
  refine DL.v (fun _ hD => o_farith (k := .f32) (a := fop .mul .f32 (xs.getD 2 0) (ys.getD 0 0)) (b := fop .mul .f32 (xs.getD 3 0) (ys.getD 2 0)) rfl rfl rfl) ?_
  refine DL.v (fun _ hD => o_move (v := (.slice (some ⟨b1, o2, none⟩) xs.length c)) rfl) ?_
  refine DL.v (fun _ hD => o_indexAddr (b := b1) (off := o2) (n := xs.length) (c := c) 2 Try.underlying22 Try.sizeOf23 rfl rfl (by omega)) ?_
  refine DL.v (fun _ hD => o_load (b := b1) (off := o2 + 2 * 1) (v := (.float .f32 (xs.getD 2 0))) Try.isAgg23 rfl (Rds.fst (Sl.at (Sl.ext hs hD) 2 (by omega) 0)) rfl) ?_
  refine DL.v (fun _ hD => o_move (v := (.slice (some ⟨b3, o4, none⟩) ys.length d)) rfl) ?_
  refine DL.v (fun _ hD => o_indexAddr (b := b3) (off := o4) (n := ys.length) (c := d) 1 Try.underlying22 Try.sizeOf23 rfl rfl (by omega)) ?_
  refine DL.v (fun _ hD => o_load (b := b3) (off := o4 + 1 * 1) (v := (.float .f32 (ys.getD 1 0))) Try.isAgg23 rfl (Rds.fst (Sl.at (Sl.ext hq hD) 1 (by omega) 0)) rfl) ?_
  refine DL.v (fun _ hD => o_farith (k := .f32) (a := xs.getD 2 0) (b := ys.getD 1 0) rfl rfl rfl) ?_
  refine DL.v (fun _ hD => o_move (v := (.slice (some ⟨b1, o2, none⟩) xs.length c)) rfl) ?_
  refine DL.v (fun _ hD => o_indexAddr (b := b1) (off := o2) (n := xs.length) (c := c) 3 Try.underlying22 Try.sizeOf23 rfl rfl (by omega)) ?_
  refine DL.v (fun _ hD => o_load (b := b1) (off := o2 + 3 * 1) (v := (.float .f32 (xs.getD 3 0))) Try.isAgg23 rfl (Rds.fst (Sl.at (Sl.ext hs hD) 3 (by omega) 0)) rfl) ?_
  refine DL.v (fun _ hD => o_move (v := (.slice (some ⟨b3, o4, none⟩) ys.length d)) rfl) ?_
  refine DL.v (fun _ hD => o_indexAddr (b := b3) (off := o4) (n := ys.length) (c := d) 3 Try.underlying22 Try.sizeOf23 rfl rfl (by omega)) ?_
  refine DL.v (fun _ hD => o_load (b := b3) (off := o4 + 3 * 1) (v := (.float .f32 (ys.getD 3 0))) Try.isAgg23 rfl (Rds.fst (Sl.at (Sl.ext hq hD) 3 (by omega) 0)) rfl) ?_
  refine DL.v (fun _ hD => o_farith (k := .f32) (a := xs.getD 3 0) (b := ys.getD 3 0) rfl rfl rfl) ?_
  refine DL.v (fun _ hD => o_farith (k := .f32) (a := fop .mul .f32 (xs.getD 2 0) (ys.getD 1 0)) (b := fop .mul .f32 (xs.getD 3 0) (ys.getD 3 0)) rfl rfl rfl) ?_
  refine DL.e (Ext.refl _) (o_buildSlice (info := Try.t23) (z := .float .f32 0) [(.float .f32 (fop .add .f32 (fop .mul .f32 (xs.getD 0 0) (ys.getD 0 0)) (fop .mul .f32 (xs.getD 1 0) (ys.getD 2 0)))), (.float .f32 (fop .add .f32 (fop .mul .f32 (xs.getD 0 0) (ys.getD 1 0)) (fop .mul .f32 (xs.getD 1 0) (ys.getD 3 0)))), (.float .f32 (fop .add .f32 (fop .mul .f32 (xs.getD 2 0) (ys.getD 0 0)) (fop .mul .f32 (xs.getD 3 0) (ys.getD 2 0)))), (.float .f32 (fop .add .f32 (fop .mul .f32 (xs.getD 2 0) (ys.getD 1 0)) (fop .mul .f32 (xs.getD 3 0) (ys.getD 3 0))))] Try.underlying22 Try.type23 rfl rfl rfl rfl (by decide) rfl rfl (by simp [Value.oneCell'])) ?_
  rintro _ _ ⟨b5, hf6, hw7, rfl, rfl⟩
  refine DL.v (fun _ hD => o_assign (v := (.slice (some ⟨b5, 0, none⟩) 4 4)) rfl) ?_
  refine DL.nil ((Ext.refl _).sg hf6) ?_
  refine W.ret ?_
  rw [show [(.float .f32 (fop .add .f32 (fop .mul .f32 (xs.getD 0 0) (ys.getD 0 0)) (fop .mul .f32 (xs.getD 1 0) (ys.getD 2 0)))), (.float .f32 (fop .add .f32 (fop .mul .f32 (xs.getD 0 0) (ys.getD 1 0)) (fop .mul .f32 (xs.getD 1 0) (ys.getD 3 0)))), (.float .f32 (fop .add .f32 (fop .mul .f32 (xs.getD 2 0) (ys.getD 0 0)) (fop .mul .f32 (xs.getD 3 0) (ys.getD 2 0)))), (.float .f32 (fop .add .f32 (fop .mul .f32 (xs.getD 2 0) (ys.getD 1 0)) (fop .mul .f32 (xs.getD 3 0) (ys.getD 3 0))))] = ((timesM xs ys).map fl).flatten from rfl]
  exact RetK.one _ (.slice (some ⟨b5, 0, none⟩) 4 4) rfl rfl (Ext.refl _) ⟨_, 4, rfl, Fsl.of_newB hf6 hw7 (by simp [fl])⟩

theorem specTimes {w0 : World} {σ : Sg} (p : Option Addr) (c : Nat) (xs : List Nat) (hs : Sl σ 1 p (xs.map fl)) (q : Option Addr) (d : Nat) (ys : List Nat) (hq : Sl σ 1 q (ys.map fl)) :
    Fn Try.prog w0 29 [(.slice p xs.length c), (.slice q ys.length d)] σ (RetFS w0 σ 1 ((timesF xs ys).map fl) (timesF xs ys).length (fun v => .tuple #[v, .bool (timesB xs ys)])) := by
  refine Fn.of_W 17 Try.func29 rfl Try.ntmps29 rfl ?_
  refine W.seq ?_
  refine W.region ?_
  refine L.v (o_assign (v := (.slice none 0 0)) rfl) ?_
  refine L.v (o_assign (v := (.bool false)) rfl) ?_
  refine L.nil ?_
  refine W.seq ?_
  refine W.seq ?_
  refine W.region ?_
  refine L.v (o_move (v := (.slice p xs.length c)) rfl) ?_
  refine L.v (o_len (p := p) (n := xs.length) (c := c) Try.underlying22 rfl) ?_
  refine L.v (o_ineq (a := (xs.length : Int)) (b := 4) rfl rfl rfl) ?_
  refine L.v (o_move (v := (.bool (!decide (((xs.length : Int) : Int) = 4)))) rfl) ?_
  rcases Bool.eq_false_or_eq_true (!decide (((xs.length : Int) : Int) = 4)) with q1 | q1
  ·
    have a2 : ¬ (((xs.length : Int) : Int) = 4) := of_decide_eq_false (bn_t q1)
    refine L.gF (j := 3) (d₁ := 9) (b := !decide (((xs.length : Int) : Int) = 4)) rfl rfl rfl q1 ?_
    refine L.gF (j := 3) (d₁ := 9) (b := !decide (((xs.length : Int) : Int) = 4)) rfl rfl rfl q1 ?_
    refine L.gF (j := 3) (d₁ := 9) (b := !decide (((xs.length : Int) : Int) = 4)) rfl rfl rfl q1 ?_
    refine L.v (o_pickT (b := !decide (((xs.length : Int) : Int) = 4)) (v := (.bool true)) rfl q1 rfl) ?_
    refine L.nil ?_
    refine W.condT (b := true) rfl rfl ?_
    refine W.seq ?_
    refine W.region ?_
    refine L.v (o_assign (v := (.slice none 0 0)) rfl) ?_
    refine L.v (o_assign (v := (.bool false)) rfl) ?_
    refine L.nil ?_
    refine W.ret ?_
    exact RetK.two _ (.slice none 0 0) (.bool false) rfl rfl rfl rfl rfl (Ext.refl _) ⟨none, 0, by rw [timesF_no (by omega), timesB_no (by omega)]; rfl, by rw [timesF_no (by omega)]; exact Fsl.nil 1⟩
  ·
    have a3 : ((xs.length : Int) : Int) = 4 := of_decide_eq_true (bn_f q1)
    refine L.gv (j := 3) (d₁ := 9) (b := !decide (((xs.length : Int) : Int) = 4)) rfl rfl rfl q1 (o_move (v := (.slice q ys.length d)) rfl) ?_
    refine L.gv (j := 3) (d₁ := 9) (b := !decide (((xs.length : Int) : Int) = 4)) rfl rfl rfl q1 (o_len (p := q) (n := ys.length) (c := d) Try.underlying22 rfl) ?_
    refine L.gv (j := 3) (d₁ := 9) (b := !decide (((xs.length : Int) : Int) = 4)) rfl rfl rfl q1 (o_ineq (a := (ys.length : Int)) (b := 4) rfl rfl rfl) ?_
    refine L.v (o_pickF (b := !decide (((xs.length : Int) : Int) = 4)) (v := (.bool (!decide (((ys.length : Int) : Int) = 4)))) rfl q1 rfl) ?_
    refine L.nil ?_
    refine W.cond (b := !decide (((ys.length : Int) : Int) = 4)) rfl (fun q4 => ?_) (fun q4 => ?_)
    ·
      have a5 : ¬ (((ys.length : Int) : Int) = 4) := of_decide_eq_false (bn_t q4)
      refine W.seq ?_
      refine W.region ?_
      refine L.v (o_assign (v := (.slice none 0 0)) rfl) ?_
      refine L.v (o_assign (v := (.bool false)) rfl) ?_
      refine L.nil ?_
      refine W.ret ?_
      exact RetK.two _ (.slice none 0 0) (.bool false) rfl rfl rfl rfl rfl (Ext.refl _) ⟨none, 0, by rw [timesF_no (by omega), timesB_no (by omega)]; rfl, by rw [timesF_no (by omega)]; exact Fsl.nil 1⟩
    ·
      have a6 : ((ys.length : Int) : Int) = 4 := of_decide_eq_true (bn_f q4)
      refine W.skip ?_
      refine W.seq ?_
      refine W.region ?_
      refine L.v (o_move (v := (.slice p xs.length c)) rfl) ?_
      refine L.v (o_move (v := (.slice q ys.length d)) rfl) ?_
      refine L.cons (op_call [(.slice p xs.length c), (.slice q ys.length d)] Try.call39 rfl (specTimesM p c xs hs q d ys hq (by omega) (by omega))) ?_
      rintro _ s9 ⟨p7, c8, rfl, fs10⟩
      have ap11 : Apart ((timesM xs ys).length) (xs.length) p7 p := by simpa using Fsl.apart fs10 hs (fl_ne _)
      have ap12 : Apart ((timesM xs ys).length) (ys.length) p7 q := by simpa using Fsl.apart fs10 hq (fl_ne _)
      have hs13 := Sl.ext hs fs10.ext
      have hs14 := Sl.ext hq fs10.ext
      have ex15 := Ext.trans (Ext.refl σ) fs10.ext
      have mu16 := Fsl.mut fs10 ((timesM xs ys).length) (by simp)
      refine L.v (o_assign (v := (.slice p7 4 c8)) rfl) ?_
      refine L.v (o_assign (v := (.bool true)) rfl) ?_
      refine L.nil ?_
      refine W.ret ?_
      exact RetK.two _ (.slice p7 4 c8) (.bool true) rfl rfl rfl rfl rfl (Ext.refl _) ⟨_, _, by rw [timesF_yes (by omega), timesB_yes (by omega)]; rfl, by rw [timesF_yes (by omega)]; exact fs10⟩

theorem implTimes {w0 : World} {σ : Sg} (p : Option Addr) (c : Nat) (xs : List Nat) (hs : Sl σ 1 p (xs.map fl)) (q : Option Addr) (d : Nat) (ys : List Nat) (hq : Sl σ 1 q (ys.map fl)) :
    Fn Try.prog w0 30 [(.slice p xs.length c), (.slice q ys.length d)] σ (RetFS w0 σ 1 ((timesF xs ys).map fl) (timesF xs ys).length (fun v => .tuple #[v, .bool (timesB xs ys)])) := by
  refine Fn.of_W 17 Try.func30 rfl Try.ntmps30 rfl ?_
  refine W.seq ?_
  refine W.region ?_
  refine L.v (o_assign (v := (.slice none 0 0)) rfl) ?_
  refine L.v (o_assign (v := (.bool false)) rfl) ?_
  refine L.nil ?_
  refine W.seq ?_
  refine W.seq ?_
  refine W.region ?_
  refine L.v (o_move (v := (.slice p xs.length c)) rfl) ?_
  refine L.v (o_len (p := p) (n := xs.length) (c := c) Try.underlying22 rfl) ?_
  refine L.v (o_ineq (a := (xs.length : Int)) (b := 4) rfl rfl rfl) ?_
  refine L.v (o_move (v := (.bool (!decide (((xs.length : Int) : Int) = 4)))) rfl) ?_
  rcases Bool.eq_false_or_eq_true (!decide (((xs.length : Int) : Int) = 4)) with q1 | q1
  ·
    have a2 : ¬ (((xs.length : Int) : Int) = 4) := of_decide_eq_false (bn_t q1)
    refine L.gF (j := 3) (d₁ := 9) (b := !decide (((xs.length : Int) : Int) = 4)) rfl rfl rfl q1 ?_
    refine L.gF (j := 3) (d₁ := 9) (b := !decide (((xs.length : Int) : Int) = 4)) rfl rfl rfl q1 ?_
    refine L.gF (j := 3) (d₁ := 9) (b := !decide (((xs.length : Int) : Int) = 4)) rfl rfl rfl q1 ?_
    refine L.v (o_pickT (b := !decide (((xs.length : Int) : Int) = 4)) (v := (.bool true)) rfl q1 rfl) ?_
    refine L.nil ?_
    refine W.condT (b := true) rfl rfl ?_
    refine W.seq ?_
    refine W.region ?_
    refine L.v (o_assign (v := (.slice none 0 0)) rfl) ?_
    refine L.v (o_assign (v := (.bool false)) rfl) ?_
    refine L.nil ?_
    refine W.ret ?_
    exact RetK.two _ (.slice none 0 0) (.bool false) rfl rfl rfl rfl rfl (Ext.refl _) ⟨none, 0, by rw [timesF_no (by omega), timesB_no (by omega)]; rfl, by rw [timesF_no (by omega)]; exact Fsl.nil 1⟩
  ·
    have a3 : ((xs.length : Int) : Int) = 4 := of_decide_eq_true (bn_f q1)
    refine L.gv (j := 3) (d₁ := 9) (b := !decide (((xs.length : Int) : Int) = 4)) rfl rfl rfl q1 (o_move (v := (.slice q ys.length d)) rfl) ?_
    refine L.gv (j := 3) (d₁ := 9) (b := !decide (((xs.length : Int) : Int) = 4)) rfl rfl rfl q1 (o_len (p := q) (n := ys.length) (c := d) Try.underlying22 rfl) ?_
    refine L.gv (j := 3) (d₁ := 9) (b := !decide (((xs.length : Int) : Int) = 4)) rfl rfl rfl q1 (o_ineq (a := (ys.length : Int)) (b := 4) rfl rfl rfl) ?_
    refine L.v (o_pickF (b := !decide (((xs.length : Int) : Int) = 4)) (v := (.bool (!decide (((ys.length : Int) : Int) = 4)))) rfl q1 rfl) ?_
    refine L.nil ?_
    refine W.cond (b := !decide (((ys.length : Int) : Int) = 4)) rfl (fun q4 => ?_) (fun q4 => ?_)
    ·
      have a5 : ¬ (((ys.length : Int) : Int) = 4) := of_decide_eq_false (bn_t q4)
      refine W.seq ?_
      refine W.region ?_
      refine L.v (o_assign (v := (.slice none 0 0)) rfl) ?_
      refine L.v (o_assign (v := (.bool false)) rfl) ?_
      refine L.nil ?_
      refine W.ret ?_
      exact RetK.two _ (.slice none 0 0) (.bool false) rfl rfl rfl rfl rfl (Ext.refl _) ⟨none, 0, by rw [timesF_no (by omega), timesB_no (by omega)]; rfl, by rw [timesF_no (by omega)]; exact Fsl.nil 1⟩
    ·
      have a6 : ((ys.length : Int) : Int) = 4 := of_decide_eq_true (bn_f q4)
      refine W.skip ?_
      refine W.seq ?_
      refine W.region ?_
      refine L.v (o_move (v := (.slice p xs.length c)) rfl) ?_
      refine L.v (o_move (v := (.slice q ys.length d)) rfl) ?_
      refine L.cons (op_call [(.slice p xs.length c), (.slice q ys.length d)] Try.call40 rfl (implTimesM p c xs hs q d ys hq (by omega) (by omega))) ?_
      rintro _ s9 ⟨p7, c8, rfl, fs10⟩
      have ap11 : Apart ((timesM xs ys).length) (xs.length) p7 p := by simpa using Fsl.apart fs10 hs (fl_ne _)
      have ap12 : Apart ((timesM xs ys).length) (ys.length) p7 q := by simpa using Fsl.apart fs10 hq (fl_ne _)
      have hs13 := Sl.ext hs fs10.ext
      have hs14 := Sl.ext hq fs10.ext
      have ex15 := Ext.trans (Ext.refl σ) fs10.ext
      have mu16 := Fsl.mut fs10 ((timesM xs ys).length) (by simp)
      refine L.v (o_assign (v := (.slice p7 4 c8)) rfl) ?_
      refine L.v (o_assign (v := (.bool true)) rfl) ?_
      refine L.nil ?_
      refine W.ret ?_
      exact RetK.two _ (.slice p7 4 c8) (.bool true) rfl rfl rfl rfl rfl (Ext.refl _) ⟨_, _, by rw [timesF_yes (by omega), timesB_yes (by omega)]; rfl, by rw [timesF_yes (by omega)]; exact fs10⟩

theorem lawTimes {w0 : World} {σ : Sg} (p : Option Addr) (c : Nat) (xs : List Nat) (hs : Sl σ 1 p (xs.map fl)) (q : Option Addr) (d : Nat) (ys : List Nat) (hq : Sl σ 1 q (ys.map fl)) :
    Fn Try.prog w0 9 [(.slice p xs.length c), (.slice q ys.length d)] σ (fun u _ => u = .bool true) := by
  refine Fn.of_W 114 Try.func9 rfl Try.ntmps9 rfl ?_
  refine W.seq ?_
  refine W.region ?_
  refine L.v (o_assign (v := (.bool false)) rfl) ?_
  refine L.nil ?_
  refine W.seq ?_
  refine W.seq ?_
  refine W.region ?_
  refine L.v (o_move (v := (.slice p xs.length c)) rfl) ?_
  refine L.v (o_len (p := p) (n := xs.length) (c := c) Try.underlying22 rfl) ?_
  refine L.v (o_igtr (a := (xs.length : Int)) (b := 1048576) rfl rfl rfl) ?_
  refine L.nil ?_
  refine W.cond (b := decide ((1048576 : Int) < (xs.length : Int))) rfl (fun q1 => ?_) (fun q1 => ?_)
  ·
    have a2 : (1048576 : Int) < (xs.length : Int) := of_decide_eq_true q1
    refine W.seq ?_
    refine W.region ?_
    refine L.v (o_assign (v := (.bool true)) rfl) ?_
    refine L.nil ?_
    refine W.ret ?_
    exact RetK.one _ (.bool true) rfl rfl (Ext.refl _) rfl
  ·
    have a3 : ¬ ((1048576 : Int) < (xs.length : Int)) := of_decide_eq_false q1
    refine W.skip ?_
    refine W.seq ?_
    refine W.seq ?_
    refine W.region ?_
    refine L.v (o_move (v := (.slice q ys.length d)) rfl) ?_
    refine L.v (o_len (p := q) (n := ys.length) (c := d) Try.underlying22 rfl) ?_
    refine L.v (o_igtr (a := (ys.length : Int)) (b := 1048576) rfl rfl rfl) ?_
    refine L.nil ?_
    refine W.cond (b := decide ((1048576 : Int) < (ys.length : Int))) rfl (fun q4 => ?_) (fun q4 => ?_)
    ·
      have a5 : (1048576 : Int) < (ys.length : Int) := of_decide_eq_true q4
      refine W.seq ?_
      refine W.region ?_
      refine L.v (o_assign (v := (.bool true)) rfl) ?_
      refine L.nil ?_
      refine W.ret ?_
      exact RetK.one _ (.bool true) rfl rfl (Ext.refl _) rfl
    ·
      have a6 : ¬ ((1048576 : Int) < (ys.length : Int)) := of_decide_eq_false q4
      refine W.skip ?_
      refine W.seq ?_
      refine W.region ?_
      refine L.v (o_move (v := (.slice p xs.length c)) rfl) ?_
      refine L.cons (op_call [(.slice p xs.length c)] Try.call12 rfl (toF32S p c xs hs (by omega))) ?_
      rintro _ s9 ⟨p7, c8, rfl, fs10⟩
      have ap11 : Apart (xs.length) (xs.length) p7 p := by simpa using Fsl.apart fs10 hs (fl_ne _)
      have ap12 : Apart (xs.length) (ys.length) p7 q := by simpa using Fsl.apart fs10 hq (fl_ne _)
      have hs13 := Sl.ext hs fs10.ext
      have hs14 := Sl.ext hq fs10.ext
      have ex15 := Ext.trans (Ext.refl σ) fs10.ext
      have mu16 := Fsl.mut fs10 (xs.length) (by simp)
      refine L.v (o_move (v := (.slice q ys.length d)) rfl) ?_
      refine L.cons (op_call [(.slice q ys.length d)] Try.call12 rfl (toF32S q d ys hs14 (by omega))) ?_
      rintro _ s19 ⟨p17, c18, rfl, fs20⟩
      have ap21 : Apart (ys.length) (xs.length) p17 p := by simpa using Fsl.apart fs20 hs13 (fl_ne _)
      have ap22 : Apart (ys.length) (ys.length) p17 q := by simpa using Fsl.apart fs20 hs14 (fl_ne _)
      have ap23 : Apart (ys.length) (xs.length) p17 p7 := by simpa using Fsl.apart fs20 (Fsl.reads fs10) (fl_ne _)
      have hs24 := Sl.ext hs13 fs20.ext
      have hs25 := Sl.ext hs14 fs20.ext
      have hs26 := Sl.ext (Fsl.reads fs10) fs20.ext
      have mu27 := Mut.ext mu16 fs20.ext
      have ex28 := Ext.trans ex15 fs20.ext
      have mu29 := Fsl.mut fs20 (ys.length) (by simp)
      refine L.cons (op_call [(.slice p7 xs.length c8), (.slice p17 ys.length c18)] Try.call29 rfl (specTimes p7 c8 xs hs26 p17 c18 ys (Fsl.reads fs20))) ?_
      rintro _ s32 ⟨p30, c31, rfl, fs33⟩
      have ap34 : Apart ((timesF xs ys).length) (xs.length) p30 p := by simpa using Fsl.apart fs33 hs24 (fl_ne _)
      have ap35 : Apart ((timesF xs ys).length) (ys.length) p30 q := by simpa using Fsl.apart fs33 hs25 (fl_ne _)
      have ap36 : Apart ((timesF xs ys).length) (xs.length) p30 p7 := by simpa using Fsl.apart fs33 hs26 (fl_ne _)
      have ap37 : Apart ((timesF xs ys).length) (ys.length) p30 p17 := by simpa using Fsl.apart fs33 (Fsl.reads fs20) (fl_ne _)
      have hs38 := Sl.ext hs24 fs33.ext
      have hs39 := Sl.ext hs25 fs33.ext
      have hs40 := Sl.ext hs26 fs33.ext
      have mu41 := Mut.ext mu27 fs33.ext
      have hs42 := Sl.ext (Fsl.reads fs20) fs33.ext
      have mu43 := Mut.ext mu29 fs33.ext
      have ex44 := Ext.trans ex28 fs33.ext
      have mu45 := Fsl.mut fs33 ((timesF xs ys).length) (by simp)
      refine L.v (o_move (v := (.tuple #[(.slice p30 ((timesF xs ys).length) c31), (.bool (timesB xs ys))])) rfl) ?_
      refine L.v (o_extract (vs := #[(.slice p30 ((timesF xs ys).length) c31), (.bool (timesB xs ys))]) (v := (.slice p30 ((timesF xs ys).length) c31)) rfl rfl rfl) ?_
      refine L.v (o_extract (vs := #[(.slice p30 ((timesF xs ys).length) c31), (.bool (timesB xs ys))]) (v := (.bool (timesB xs ys))) rfl rfl rfl) ?_
      refine L.v (o_assign (v := (.slice p30 ((timesF xs ys).length) c31)) rfl) ?_
      refine L.v (o_assign (v := (.bool (timesB xs ys))) rfl) ?_
      refine L.nil ?_
      refine W.seq ?_
      refine W.region ?_
      refine L.v (o_move (v := (.slice p xs.length c)) rfl) ?_
      refine L.cons (op_call [(.slice p xs.length c)] Try.call12 rfl (toF32S p c xs hs38 (by omega))) ?_
      rintro _ s48 ⟨p46, c47, rfl, fs49⟩
      have ap50 : Apart (xs.length) (xs.length) p46 p := by simpa using Fsl.apart fs49 hs38 (fl_ne _)
      have ap51 : Apart (xs.length) (ys.length) p46 q := by simpa using Fsl.apart fs49 hs39 (fl_ne _)
      have ap52 : Apart (xs.length) (xs.length) p46 p7 := by simpa using Fsl.apart fs49 hs40 (fl_ne _)
      have ap53 : Apart (xs.length) (ys.length) p46 p17 := by simpa using Fsl.apart fs49 hs42 (fl_ne _)
      have ap54 : Apart (xs.length) ((timesF xs ys).length) p46 p30 := by simpa using Fsl.apart fs49 (Fsl.reads fs33) (fl_ne _)
      have hs55 := Sl.ext hs38 fs49.ext
      have hs56 := Sl.ext hs39 fs49.ext
      have hs57 := Sl.ext hs40 fs49.ext
      have mu58 := Mut.ext mu41 fs49.ext
      have hs59 := Sl.ext hs42 fs49.ext
      have mu60 := Mut.ext mu43 fs49.ext
      have hs61 := Sl.ext (Fsl.reads fs33) fs49.ext
      have mu62 := Mut.ext mu45 fs49.ext
      have ex63 := Ext.trans ex44 fs49.ext
      have mu64 := Fsl.mut fs49 (xs.length) (by simp)
      refine L.v (o_assign (v := (.slice p46 xs.length c47)) rfl) ?_
      refine L.nil ?_
      refine W.seq ?_
      refine W.region ?_
      refine L.v (o_move (v := (.slice q ys.length d)) rfl) ?_
      refine L.cons (op_call [(.slice q ys.length d)] Try.call12 rfl (toF32S q d ys hs56 (by omega))) ?_
      rintro _ s67 ⟨p65, c66, rfl, fs68⟩
      have ap69 : Apart (ys.length) (xs.length) p65 p := by simpa using Fsl.apart fs68 hs55 (fl_ne _)
      have ap70 : Apart (ys.length) (ys.length) p65 q := by simpa using Fsl.apart fs68 hs56 (fl_ne _)
      have ap71 : Apart (ys.length) (xs.length) p65 p7 := by simpa using Fsl.apart fs68 hs57 (fl_ne _)
      have ap72 : Apart (ys.length) (ys.length) p65 p17 := by simpa using Fsl.apart fs68 hs59 (fl_ne _)
      have ap73 : Apart (ys.length) ((timesF xs ys).length) p65 p30 := by simpa using Fsl.apart fs68 hs61 (fl_ne _)
      have ap74 : Apart (ys.length) (xs.length) p65 p46 := by simpa using Fsl.apart fs68 (Fsl.reads fs49) (fl_ne _)
      have hs75 := Sl.ext hs55 fs68.ext
      have hs76 := Sl.ext hs56 fs68.ext
      have hs77 := Sl.ext hs57 fs68.ext
      have mu78 := Mut.ext mu58 fs68.ext
      have hs79 := Sl.ext hs59 fs68.ext
      have mu80 := Mut.ext mu60 fs68.ext
      have hs81 := Sl.ext hs61 fs68.ext
      have mu82 := Mut.ext mu62 fs68.ext
      have hs83 := Sl.ext (Fsl.reads fs49) fs68.ext
      have mu84 := Mut.ext mu64 fs68.ext
      have ex85 := Ext.trans ex63 fs68.ext
      have mu86 := Fsl.mut fs68 (ys.length) (by simp)
      refine L.v (o_assign (v := (.slice p65 ys.length c66)) rfl) ?_
      refine L.nil ?_
      refine W.seq ?_
      refine W.region ?_
      refine L.v (o_move (v := (.slice p46 xs.length c47)) rfl) ?_
      refine L.v (o_move (v := (.slice p65 ys.length c66)) rfl) ?_
      refine L.cons (op_call [(.slice p46 xs.length c47), (.slice p65 ys.length c66)] Try.call30 rfl (implTimes p46 c47 xs hs83 p65 c66 ys (Fsl.reads fs68))) ?_
      rintro _ s89 ⟨p87, c88, rfl, fs90⟩
      have ap91 : Apart ((timesF xs ys).length) (xs.length) p87 p := by simpa using Fsl.apart fs90 hs75 (fl_ne _)
      have ap92 : Apart ((timesF xs ys).length) (ys.length) p87 q := by simpa using Fsl.apart fs90 hs76 (fl_ne _)
      have ap93 : Apart ((timesF xs ys).length) (xs.length) p87 p7 := by simpa using Fsl.apart fs90 hs77 (fl_ne _)
      have ap94 : Apart ((timesF xs ys).length) (ys.length) p87 p17 := by simpa using Fsl.apart fs90 hs79 (fl_ne _)
      have ap95 : Apart ((timesF xs ys).length) ((timesF xs ys).length) p87 p30 := by simpa using Fsl.apart fs90 hs81 (fl_ne _)
      have ap96 : Apart ((timesF xs ys).length) (xs.length) p87 p46 := by simpa using Fsl.apart fs90 hs83 (fl_ne _)
      have ap97 : Apart ((timesF xs ys).length) (ys.length) p87 p65 := by simpa using Fsl.apart fs90 (Fsl.reads fs68) (fl_ne _)
      have hs98 := Sl.ext hs75 fs90.ext
      have hs99 := Sl.ext hs76 fs90.ext
      have hs100 := Sl.ext hs77 fs90.ext
      have mu101 := Mut.ext mu78 fs90.ext
      have hs102 := Sl.ext hs79 fs90.ext
      have mu103 := Mut.ext mu80 fs90.ext
      have hs104 := Sl.ext hs81 fs90.ext
      have mu105 := Mut.ext mu82 fs90.ext
      have hs106 := Sl.ext hs83 fs90.ext
      have mu107 := Mut.ext mu84 fs90.ext
      have hs108 := Sl.ext (Fsl.reads fs68) fs90.ext
      have mu109 := Mut.ext mu86 fs90.ext
      have ex110 := Ext.trans ex85 fs90.ext
      have mu111 := Fsl.mut fs90 ((timesF xs ys).length) (by simp)
      refine L.v (o_move (v := (.tuple #[(.slice p87 ((timesF xs ys).length) c88), (.bool (timesB xs ys))])) rfl) ?_
      refine L.v (o_extract (vs := #[(.slice p87 ((timesF xs ys).length) c88), (.bool (timesB xs ys))]) (v := (.slice p87 ((timesF xs ys).length) c88)) rfl rfl rfl) ?_
      refine L.v (o_extract (vs := #[(.slice p87 ((timesF xs ys).length) c88), (.bool (timesB xs ys))]) (v := (.bool (timesB xs ys))) rfl rfl rfl) ?_
      refine L.v (o_assign (v := (.slice p87 ((timesF xs ys).length) c88)) rfl) ?_
      refine L.v (o_assign (v := (.bool (timesB xs ys))) rfl) ?_
      refine L.nil ?_
      refine W.seq ?_
      refine W.seq ?_
      refine W.region ?_
      refine L.v (o_move (v := (.slice p87 ((timesF xs ys).length) c88)) rfl) ?_
      refine L.v (o_move (v := (.slice p30 ((timesF xs ys).length) c31)) rfl) ?_
      refine L.v (v := (.bool true)) (op_call [(.slice p87 ((timesF xs ys).length) c88), (.slice p30 ((timesF xs ys).length) c31)] Try.call15 rfl (eqF32S p87 p30 c88 c31 (timesF xs ys) (Fsl.reads fs90) hs104 (by first | omega | exact timesF_le _ _))) ?_
      refine L.v (o_not (b := true) (c := false) rfl rfl) ?_
      refine L.v (o_move (v := (.bool false)) rfl) ?_
      refine L.gv (j := 4) (d₁ := 44) (b := false) rfl rfl rfl rfl (o_move (v := (.bool (timesB xs ys))) rfl) ?_
      refine L.gv (j := 4) (d₁ := 44) (b := false) rfl rfl rfl rfl (o_move (v := (.bool (timesB xs ys))) rfl) ?_
      refine L.gv (j := 4) (d₁ := 44) (b := false) rfl rfl rfl rfl (o_bneq (a := timesB xs ys) (b := timesB xs ys) (c := false) Try.underlying4 rfl rfl (by simp)) ?_
      refine L.v (o_pickF (b := false) (v := (.bool false)) rfl rfl rfl) ?_
      refine L.nil ?_
      refine W.condF (b := false) rfl rfl ?_
      refine W.skip ?_
      refine W.seq ?_
      refine W.seq ?_
      refine W.region ?_
      refine L.v (o_move (v := (.slice p46 xs.length c47)) rfl) ?_
      refine L.v (o_move (v := (.slice p xs.length c)) rfl) ?_
      refine L.cons (op_call [(.slice p xs.length c)] Try.call12 rfl (toF32S p c xs hs98 (by omega))) ?_
      rintro _ s114 ⟨p112, c113, rfl, fs115⟩
      have ap116 : Apart (xs.length) (xs.length) p112 p := by simpa using Fsl.apart fs115 hs98 (fl_ne _)
      have ap117 : Apart (xs.length) (ys.length) p112 q := by simpa using Fsl.apart fs115 hs99 (fl_ne _)
      have ap118 : Apart (xs.length) (xs.length) p112 p7 := by simpa using Fsl.apart fs115 hs100 (fl_ne _)
      have ap119 : Apart (xs.length) (ys.length) p112 p17 := by simpa using Fsl.apart fs115 hs102 (fl_ne _)
      have ap120 : Apart (xs.length) ((timesF xs ys).length) p112 p30 := by simpa using Fsl.apart fs115 hs104 (fl_ne _)
      have ap121 : Apart (xs.length) (xs.length) p112 p46 := by simpa using Fsl.apart fs115 hs106 (fl_ne _)
      have ap122 : Apart (xs.length) (ys.length) p112 p65 := by simpa using Fsl.apart fs115 hs108 (fl_ne _)
      have ap123 : Apart (xs.length) ((timesF xs ys).length) p112 p87 := by simpa using Fsl.apart fs115 (Fsl.reads fs90) (fl_ne _)
      have hs124 := Sl.ext hs98 fs115.ext
      have hs125 := Sl.ext hs99 fs115.ext
      have hs126 := Sl.ext hs100 fs115.ext
      have mu127 := Mut.ext mu101 fs115.ext
      have hs128 := Sl.ext hs102 fs115.ext
      have mu129 := Mut.ext mu103 fs115.ext
      have hs130 := Sl.ext hs104 fs115.ext
      have mu131 := Mut.ext mu105 fs115.ext
      have hs132 := Sl.ext hs106 fs115.ext
      have mu133 := Mut.ext mu107 fs115.ext
      have hs134 := Sl.ext hs108 fs115.ext
      have mu135 := Mut.ext mu109 fs115.ext
      have hs136 := Sl.ext (Fsl.reads fs90) fs115.ext
      have mu137 := Mut.ext mu111 fs115.ext
      have ex138 := Ext.trans ex110 fs115.ext
      have mu139 := Fsl.mut fs115 (xs.length) (by simp)
      refine L.v (v := (.bool true)) (op_call [(.slice p46 xs.length c47), (.slice p112 xs.length c113)] Try.call15 rfl (eqF32S p46 p112 c47 c113 xs hs132 (Fsl.reads fs115) (by first | omega | exact timesF_le _ _))) ?_
      refine L.v (o_not (b := true) (c := false) rfl rfl) ?_
      refine L.nil ?_
      refine W.condF (b := false) rfl rfl ?_
      refine W.skip ?_
      refine W.seq ?_
      refine W.seq ?_
      refine W.region ?_
      refine L.v (o_move (v := (.slice p65 ys.length c66)) rfl) ?_
      refine L.v (o_move (v := (.slice q ys.length d)) rfl) ?_
      refine L.cons (op_call [(.slice q ys.length d)] Try.call12 rfl (toF32S q d ys hs125 (by omega))) ?_
      rintro _ s142 ⟨p140, c141, rfl, fs143⟩
      have ap144 : Apart (ys.length) (xs.length) p140 p := by simpa using Fsl.apart fs143 hs124 (fl_ne _)
      have ap145 : Apart (ys.length) (ys.length) p140 q := by simpa using Fsl.apart fs143 hs125 (fl_ne _)
      have ap146 : Apart (ys.length) (xs.length) p140 p7 := by simpa using Fsl.apart fs143 hs126 (fl_ne _)
      have ap147 : Apart (ys.length) (ys.length) p140 p17 := by simpa using Fsl.apart fs143 hs128 (fl_ne _)
      have ap148 : Apart (ys.length) ((timesF xs ys).length) p140 p30 := by simpa using Fsl.apart fs143 hs130 (fl_ne _)
      have ap149 : Apart (ys.length) (xs.length) p140 p46 := by simpa using Fsl.apart fs143 hs132 (fl_ne _)
      have ap150 : Apart (ys.length) (ys.length) p140 p65 := by simpa using Fsl.apart fs143 hs134 (fl_ne _)
      have ap151 : Apart (ys.length) ((timesF xs ys).length) p140 p87 := by simpa using Fsl.apart fs143 hs136 (fl_ne _)
      have ap152 : Apart (ys.length) (xs.length) p140 p112 := by simpa using Fsl.apart fs143 (Fsl.reads fs115) (fl_ne _)
      have hs153 := Sl.ext hs124 fs143.ext
      have hs154 := Sl.ext hs125 fs143.ext
      have hs155 := Sl.ext hs126 fs143.ext
      have mu156 := Mut.ext mu127 fs143.ext
      have hs157 := Sl.ext hs128 fs143.ext
      have mu158 := Mut.ext mu129 fs143.ext
      have hs159 := Sl.ext hs130 fs143.ext
      have mu160 := Mut.ext mu131 fs143.ext
      have hs161 := Sl.ext hs132 fs143.ext
      have mu162 := Mut.ext mu133 fs143.ext
      have hs163 := Sl.ext hs134 fs143.ext
      have mu164 := Mut.ext mu135 fs143.ext
      have hs165 := Sl.ext hs136 fs143.ext
      have mu166 := Mut.ext mu137 fs143.ext
      have hs167 := Sl.ext (Fsl.reads fs115) fs143.ext
      have mu168 := Mut.ext mu139 fs143.ext
      have ex169 := Ext.trans ex138 fs143.ext
      have mu170 := Fsl.mut fs143 (ys.length) (by simp)
      refine L.v (v := (.bool true)) (op_call [(.slice p65 ys.length c66), (.slice p140 ys.length c141)] Try.call15 rfl (eqF32S p65 p140 c66 c141 ys hs163 (Fsl.reads fs143) (by first | omega | exact timesF_le _ _))) ?_
      refine L.v (o_not (b := true) (c := false) rfl rfl) ?_
      refine L.nil ?_
      refine W.condF (b := false) rfl rfl ?_
      refine W.skip ?_
      refine W.seq ?_
      refine W.region ?_
      refine L.v (o_assign (v := (.int .i64 1)) rfl) ?_
      refine L.nil ?_
      refine W.seq ?_
      refine W.region ?_
      refine L.v (o_move (v := (.slice p46 xs.length c47)) rfl) ?_
      refine L.v (o_move (v := (.int .i64 1)) rfl) ?_
      refine L.cons (op_call [(.slice p46 xs.length c47), (.int .i64 1)] Try.call22 rfl (markF p46 xs.length c47 1 mu162 (by first | omega | exact timesF_le _ _) (by omega))) ?_
      rintro _ s171 ⟨rfl, mk172, sl173⟩
      have hs174 := Sl.mkd hs153 mk172 (by simpa using ap50)
      have hs175 := Sl.mkd hs154 mk172 (by simpa using ap51)
      have hs176 := Sl.mkd hs155 mk172 (by simpa using ap52)
      have mu177 := Mut.mkd mu156 mk172 ap52 (by simp)
      have hs178 := Sl.mkd hs157 mk172 (by simpa using ap53)
      have mu179 := Mut.mkd mu158 mk172 ap53 (by simp)
      have hs180 := Sl.mkd hs159 mk172 (by simpa using ap54)
      have mu181 := Mut.mkd mu160 mk172 ap54 (by simp)
      have hs182 := Sl.mkd hs163 mk172 (by simpa using (Apart.symm ap74))
      have mu183 := Mut.mkd mu164 mk172 (Apart.symm ap74) (by simp)
      have hs184 := Sl.mkd hs165 mk172 (by simpa using (Apart.symm ap96))
      have mu185 := Mut.mkd mu166 mk172 (Apart.symm ap96) (by simp)
      have hs186 := Sl.mkd hs167 mk172 (by simpa using (Apart.symm ap121))
      have mu187 := Mut.mkd mu168 mk172 (Apart.symm ap121) (by simp)
      have hs188 := Sl.mkd (Fsl.reads fs143) mk172 (by simpa using (Apart.symm ap149))
      have mu189 := Mut.mkd mu170 mk172 (Apart.symm ap149) (by simp)
      refine L.v (o_assign (v := (.int .i64 (1 + (xs.length : Int)))) rfl) ?_
      refine L.nil ?_
      refine W.seq ?_
      refine W.region ?_
      refine L.v (o_move (v := (.slice p65 ys.length c66)) rfl) ?_
      refine L.v (o_move (v := (.int .i64 (1 + (xs.length : Int)))) rfl) ?_
      refine L.cons (op_call [(.slice p65 ys.length c66), (.int .i64 (1 + (xs.length : Int)))] Try.call22 rfl (markF p65 ys.length c66 (1 + (xs.length : Int)) mu183 (by first | omega | exact timesF_le _ _) (by omega))) ?_
      rintro _ s190 ⟨rfl, mk191, sl192⟩
      have hs193 := Sl.mkd hs174 mk191 (by simpa using ap69)
      have hs194 := Sl.mkd hs175 mk191 (by simpa using ap70)
      have hs195 := Sl.mkd hs176 mk191 (by simpa using ap71)
      have mu196 := Mut.mkd mu177 mk191 ap71 (by simp)
      have hs197 := Sl.mkd hs178 mk191 (by simpa using ap72)
      have mu198 := Mut.mkd mu179 mk191 ap72 (by simp)
      have hs199 := Sl.mkd hs180 mk191 (by simpa using ap73)
      have mu200 := Mut.mkd mu181 mk191 ap73 (by simp)
      have hs201 := Sl.mkd sl173 mk191 (by simpa using ap74)
      have hs202 := Sl.mkd hs184 mk191 (by simpa using (Apart.symm ap97))
      have mu203 := Mut.mkd mu185 mk191 (Apart.symm ap97) (by simp)
      have hs204 := Sl.mkd hs186 mk191 (by simpa using (Apart.symm ap122))
      have mu205 := Mut.mkd mu187 mk191 (Apart.symm ap122) (by simp)
      have hs206 := Sl.mkd hs188 mk191 (by simpa using (Apart.symm ap150))
      have mu207 := Mut.mkd mu189 mk191 (Apart.symm ap150) (by simp)
      refine L.v (o_assign (v := (.int .i64 ((1 + (xs.length : Int)) + (ys.length : Int)))) rfl) ?_
      refine L.nil ?_
      refine W.seq ?_
      refine W.seq ?_
      refine W.region ?_
      refine L.v (o_move (v := (.int .i64 ((1 + (xs.length : Int)) + (ys.length : Int)))) rfl) ?_
      refine L.v (o_ilss (a := (1 + (xs.length : Int)) + (ys.length : Int)) (b := 0) rfl rfl rfl) ?_
      refine L.v (o_move (v := (.bool (decide (((1 + (xs.length : Int)) + (ys.length : Int) : Int) < 0)))) rfl) ?_
      refine L.gv (j := 2) (d₁ := 67) (b := decide (((1 + (xs.length : Int)) + (ys.length : Int) : Int) < 0)) rfl rfl rfl (decide_eq_false (by omega)) (o_move (v := (.slice p87 ((timesF xs ys).length) c88)) rfl) ?_
      refine L.gv (j := 2) (d₁ := 67) (b := decide (((1 + (xs.length : Int)) + (ys.length : Int) : Int) < 0)) rfl rfl rfl (decide_eq_false (by omega)) (o_move (v := (.slice p30 ((timesF xs ys).length) c31)) rfl) ?_
      refine L.gv (j := 2) (d₁ := 67) (b := decide (((1 + (xs.length : Int)) + (ys.length : Int) : Int) < 0)) rfl rfl rfl (decide_eq_false (by omega)) (v := (.bool true)) (op_call [(.slice p87 ((timesF xs ys).length) c88), (.slice p30 ((timesF xs ys).length) c31)] Try.call15 rfl (eqF32S p87 p30 c88 c31 (timesF xs ys) hs202 hs199 (by first | omega | exact timesF_le _ _))) ?_
      refine L.gv (j := 2) (d₁ := 67) (b := decide (((1 + (xs.length : Int)) + (ys.length : Int) : Int) < 0)) rfl rfl rfl (decide_eq_false (by omega)) (o_not (b := true) (c := false) rfl rfl) ?_
      refine L.v (o_pickF (b := decide (((1 + (xs.length : Int)) + (ys.length : Int) : Int) < 0)) (v := (.bool false)) rfl (decide_eq_false (by omega)) rfl) ?_
      refine L.v (o_move (v := (.bool false)) rfl) ?_
      refine L.gv (j := 8) (d₁ := 73) (b := false) rfl rfl rfl rfl (o_move (v := (.bool (timesB xs ys))) rfl) ?_
      refine L.gv (j := 8) (d₁ := 73) (b := false) rfl rfl rfl rfl (o_move (v := (.bool (timesB xs ys))) rfl) ?_
      refine L.gv (j := 8) (d₁ := 73) (b := false) rfl rfl rfl rfl (o_bneq (a := timesB xs ys) (b := timesB xs ys) (c := false) Try.underlying4 rfl rfl (by simp)) ?_
      refine L.v (o_pickF (b := false) (v := (.bool false)) rfl rfl rfl) ?_
      refine L.nil ?_
      refine W.condF (b := false) rfl rfl ?_
      refine W.skip ?_
      refine W.seq ?_
      refine W.region ?_
      refine L.v (o_assign (v := (.int .i64 1)) rfl) ?_
      refine L.nil ?_
      refine W.seq ?_
      refine W.region ?_
      refine L.v (o_move (v := (.slice p87 ((timesF xs ys).length) c88)) rfl) ?_
      refine L.v (o_move (v := (.int .i64 1)) rfl) ?_
      refine L.cons (op_call [(.slice p87 ((timesF xs ys).length) c88), (.int .i64 1)] Try.call22 rfl (markF p87 ((timesF xs ys).length) c88 1 mu203 (by first | omega | exact timesF_le _ _) (by omega))) ?_
      rintro _ s208 ⟨rfl, mk209, sl210⟩
      have hs211 := Sl.mkd hs193 mk209 (by simpa using ap91)
      have hs212 := Sl.mkd hs194 mk209 (by simpa using ap92)
      have hs213 := Sl.mkd hs195 mk209 (by simpa using ap93)
      have mu214 := Mut.mkd mu196 mk209 ap93 (by simp)
      have hs215 := Sl.mkd hs197 mk209 (by simpa using ap94)
      have mu216 := Mut.mkd mu198 mk209 ap94 (by simp)
      have hs217 := Sl.mkd hs199 mk209 (by simpa using ap95)
      have mu218 := Mut.mkd mu200 mk209 ap95 (by simp)
      have hs219 := Sl.mkd hs201 mk209 (by simpa using ap96)
      have hs220 := Sl.mkd sl192 mk209 (by simpa using ap97)
      have hs221 := Sl.mkd hs204 mk209 (by simpa using (Apart.symm ap123))
      have mu222 := Mut.mkd mu205 mk209 (Apart.symm ap123) (by simp)
      have hs223 := Sl.mkd hs206 mk209 (by simpa using (Apart.symm ap151))
      have mu224 := Mut.mkd mu207 mk209 (Apart.symm ap151) (by simp)
      refine L.v (o_assign (v := (.int .i64 (1 + (((timesF xs ys).length : Nat) : Int)))) rfl) ?_
      refine L.nil ?_
      refine W.seq ?_
      refine W.region ?_
      refine L.v (o_assign (v := (.int .i64 1)) rfl) ?_
      refine L.nil ?_
      refine W.seq ?_
      refine W.region ?_
      refine L.v (o_move (v := (.slice p87 ((timesF xs ys).length) c88)) rfl) ?_
      refine L.v (o_move (v := (.int .i64 1)) rfl) ?_
      refine L.v (v := (.int .i64 (1 + (((timesF xs ys).length : Nat) : Int)))) (op_call [(.slice p87 ((timesF xs ys).length) c88), (.int .i64 1)] Try.call23 rfl (heldF p87 ((timesF xs ys).length) c88 1 sl210 (by first | omega | exact timesF_le _ _) (by omega))) ?_
      refine L.v (o_assign (v := (.int .i64 (1 + (((timesF xs ys).length : Nat) : Int)))) rfl) ?_
      refine L.nil ?_
      refine W.seq ?_
      refine W.seq ?_
      refine W.region ?_
      refine L.v (o_move (v := (.int .i64 (1 + (((timesF xs ys).length : Nat) : Int)))) rfl) ?_
      refine L.v (o_ilss (a := 1 + (((timesF xs ys).length : Nat) : Int)) (b := 0) rfl rfl rfl) ?_
      refine L.nil ?_
      refine W.condF (b := decide ((1 + (((timesF xs ys).length : Nat) : Int) : Int) < 0)) rfl (decide_eq_false (by omega)) ?_
      refine W.skip ?_
      refine W.seq ?_
      refine W.seq ?_
      refine W.region ?_
      refine L.v (o_move (v := (.int .i64 (1 + (((timesF xs ys).length : Nat) : Int)))) rfl) ?_
      refine L.v (o_move (v := (.int .i64 (1 + (((timesF xs ys).length : Nat) : Int)))) rfl) ?_
      refine L.v (o_ineq (a := 1 + (((timesF xs ys).length : Nat) : Int)) (b := 1 + (((timesF xs ys).length : Nat) : Int)) (c := false) rfl rfl (by simp)) ?_
      refine L.nil ?_
      refine W.condF (b := false) rfl rfl ?_
      refine W.skip ?_
      refine W.seq ?_
      refine W.region ?_
      refine L.v (o_move (v := (.slice p xs.length c)) rfl) ?_
      refine L.cons (op_call [(.slice p xs.length c)] Try.call12 rfl (toF32S p c xs hs211 (by omega))) ?_
      rintro _ s227 ⟨p225, c226, rfl, fs228⟩
      have ap229 : Apart (xs.length) (xs.length) p225 p := by simpa using Fsl.apart fs228 hs211 (fl_ne _)
      have ap230 : Apart (xs.length) (ys.length) p225 q := by simpa using Fsl.apart fs228 hs212 (fl_ne _)
      have ap231 : Apart (xs.length) (xs.length) p225 p7 := by simpa using Fsl.apart fs228 hs213 (fl_ne _)
      have ap232 : Apart (xs.length) (ys.length) p225 p17 := by simpa using Fsl.apart fs228 hs215 (fl_ne _)
      have ap233 : Apart (xs.length) ((timesF xs ys).length) p225 p30 := by simpa using Fsl.apart fs228 hs217 (fl_ne _)
      have ap234 : Apart (xs.length) (xs.length) p225 p46 := by simpa using Fsl.apart fs228 hs219 (marks32_ne _ _)
      have ap235 : Apart (xs.length) (ys.length) p225 p65 := by simpa using Fsl.apart fs228 hs220 (marks32_ne _ _)
      have ap236 : Apart (xs.length) ((timesF xs ys).length) p225 p87 := by simpa using Fsl.apart fs228 sl210 (marks32_ne _ _)
      have ap237 : Apart (xs.length) (xs.length) p225 p112 := by simpa using Fsl.apart fs228 hs221 (fl_ne _)
      have ap238 : Apart (xs.length) (ys.length) p225 p140 := by simpa using Fsl.apart fs228 hs223 (fl_ne _)
      have hs239 := Sl.ext hs211 fs228.ext
      have hs240 := Sl.ext hs212 fs228.ext
      have hs241 := Sl.ext hs213 fs228.ext
      have mu242 := Mut.ext mu214 fs228.ext
      have hs243 := Sl.ext hs215 fs228.ext
      have mu244 := Mut.ext mu216 fs228.ext
      have hs245 := Sl.ext hs217 fs228.ext
      have mu246 := Mut.ext mu218 fs228.ext
      have hs247 := Sl.ext hs219 fs228.ext
      have hs248 := Sl.ext hs220 fs228.ext
      have hs249 := Sl.ext sl210 fs228.ext
      have hs250 := Sl.ext hs221 fs228.ext
      have mu251 := Mut.ext mu222 fs228.ext
      have hs252 := Sl.ext hs223 fs228.ext
      have mu253 := Mut.ext mu224 fs228.ext
      have mu254 := Fsl.mut fs228 (xs.length) (by simp)
      refine L.v (o_move (v := (.slice q ys.length d)) rfl) ?_
      refine L.cons (op_call [(.slice q ys.length d)] Try.call12 rfl (toF32S q d ys hs240 (by omega))) ?_
      rintro _ s257 ⟨p255, c256, rfl, fs258⟩
      have ap259 : Apart (ys.length) (xs.length) p255 p := by simpa using Fsl.apart fs258 hs239 (fl_ne _)
      have ap260 : Apart (ys.length) (ys.length) p255 q := by simpa using Fsl.apart fs258 hs240 (fl_ne _)
      have ap261 : Apart (ys.length) (xs.length) p255 p7 := by simpa using Fsl.apart fs258 hs241 (fl_ne _)
      have ap262 : Apart (ys.length) (ys.length) p255 p17 := by simpa using Fsl.apart fs258 hs243 (fl_ne _)
      have ap263 : Apart (ys.length) ((timesF xs ys).length) p255 p30 := by simpa using Fsl.apart fs258 hs245 (fl_ne _)
      have ap264 : Apart (ys.length) (xs.length) p255 p46 := by simpa using Fsl.apart fs258 hs247 (marks32_ne _ _)
      have ap265 : Apart (ys.length) (ys.length) p255 p65 := by simpa using Fsl.apart fs258 hs248 (marks32_ne _ _)
      have ap266 : Apart (ys.length) ((timesF xs ys).length) p255 p87 := by simpa using Fsl.apart fs258 hs249 (marks32_ne _ _)
      have ap267 : Apart (ys.length) (xs.length) p255 p112 := by simpa using Fsl.apart fs258 hs250 (fl_ne _)
      have ap268 : Apart (ys.length) (ys.length) p255 p140 := by simpa using Fsl.apart fs258 hs252 (fl_ne _)
      have ap269 : Apart (ys.length) (xs.length) p255 p225 := by simpa using Fsl.apart fs258 (Fsl.reads fs228) (fl_ne _)
      have hs270 := Sl.ext hs239 fs258.ext
      have hs271 := Sl.ext hs240 fs258.ext
      have hs272 := Sl.ext hs241 fs258.ext
      have mu273 := Mut.ext mu242 fs258.ext
      have hs274 := Sl.ext hs243 fs258.ext
      have mu275 := Mut.ext mu244 fs258.ext
      have hs276 := Sl.ext hs245 fs258.ext
      have mu277 := Mut.ext mu246 fs258.ext
      have hs278 := Sl.ext hs247 fs258.ext
      have hs279 := Sl.ext hs248 fs258.ext
      have hs280 := Sl.ext hs249 fs258.ext
      have hs281 := Sl.ext hs250 fs258.ext
      have mu282 := Mut.ext mu251 fs258.ext
      have hs283 := Sl.ext hs252 fs258.ext
      have mu284 := Mut.ext mu253 fs258.ext
      have hs285 := Sl.ext (Fsl.reads fs228) fs258.ext
      have mu286 := Mut.ext mu254 fs258.ext
      have mu287 := Fsl.mut fs258 (ys.length) (by simp)
      refine L.cons (op_call [(.slice p225 xs.length c226), (.slice p255 ys.length c256)] Try.call30 rfl (implTimes p225 c226 xs hs285 p255 c256 ys (Fsl.reads fs258))) ?_
      rintro _ s290 ⟨p288, c289, rfl, fs291⟩
      have ap292 : Apart ((timesF xs ys).length) (xs.length) p288 p := by simpa using Fsl.apart fs291 hs270 (fl_ne _)
      have ap293 : Apart ((timesF xs ys).length) (ys.length) p288 q := by simpa using Fsl.apart fs291 hs271 (fl_ne _)
      have ap294 : Apart ((timesF xs ys).length) (xs.length) p288 p7 := by simpa using Fsl.apart fs291 hs272 (fl_ne _)
      have ap295 : Apart ((timesF xs ys).length) (ys.length) p288 p17 := by simpa using Fsl.apart fs291 hs274 (fl_ne _)
      have ap296 : Apart ((timesF xs ys).length) ((timesF xs ys).length) p288 p30 := by simpa using Fsl.apart fs291 hs276 (fl_ne _)
      have ap297 : Apart ((timesF xs ys).length) (xs.length) p288 p46 := by simpa using Fsl.apart fs291 hs278 (marks32_ne _ _)
      have ap298 : Apart ((timesF xs ys).length) (ys.length) p288 p65 := by simpa using Fsl.apart fs291 hs279 (marks32_ne _ _)
      have ap299 : Apart ((timesF xs ys).length) ((timesF xs ys).length) p288 p87 := by simpa using Fsl.apart fs291 hs280 (marks32_ne _ _)
      have ap300 : Apart ((timesF xs ys).length) (xs.length) p288 p112 := by simpa using Fsl.apart fs291 hs281 (fl_ne _)
      have ap301 : Apart ((timesF xs ys).length) (ys.length) p288 p140 := by simpa using Fsl.apart fs291 hs283 (fl_ne _)
      have ap302 : Apart ((timesF xs ys).length) (xs.length) p288 p225 := by simpa using Fsl.apart fs291 hs285 (fl_ne _)
      have ap303 : Apart ((timesF xs ys).length) (ys.length) p288 p255 := by simpa using Fsl.apart fs291 (Fsl.reads fs258) (fl_ne _)
      have hs304 := Sl.ext hs270 fs291.ext
      have hs305 := Sl.ext hs271 fs291.ext
      have hs306 := Sl.ext hs272 fs291.ext
      have mu307 := Mut.ext mu273 fs291.ext
      have hs308 := Sl.ext hs274 fs291.ext
      have mu309 := Mut.ext mu275 fs291.ext
      have hs310 := Sl.ext hs276 fs291.ext
      have mu311 := Mut.ext mu277 fs291.ext
      have hs312 := Sl.ext hs278 fs291.ext
      have hs313 := Sl.ext hs279 fs291.ext
      have hs314 := Sl.ext hs280 fs291.ext
      have hs315 := Sl.ext hs281 fs291.ext
      have mu316 := Mut.ext mu282 fs291.ext
      have hs317 := Sl.ext hs283 fs291.ext
      have mu318 := Mut.ext mu284 fs291.ext
      have hs319 := Sl.ext hs285 fs291.ext
      have mu320 := Mut.ext mu286 fs291.ext
      have hs321 := Sl.ext (Fsl.reads fs258) fs291.ext
      have mu322 := Mut.ext mu287 fs291.ext
      have mu323 := Fsl.mut fs291 ((timesF xs ys).length) (by simp)
      refine L.v (o_move (v := (.tuple #[(.slice p288 ((timesF xs ys).length) c289), (.bool (timesB xs ys))])) rfl) ?_
      refine L.v (o_extract (vs := #[(.slice p288 ((timesF xs ys).length) c289), (.bool (timesB xs ys))]) (v := (.slice p288 ((timesF xs ys).length) c289)) rfl rfl rfl) ?_
      refine L.v (o_extract (vs := #[(.slice p288 ((timesF xs ys).length) c289), (.bool (timesB xs ys))]) (v := (.bool (timesB xs ys))) rfl rfl rfl) ?_
      refine L.v (o_assign (v := (.slice p288 ((timesF xs ys).length) c289)) rfl) ?_
      refine L.v (o_assign (v := (.bool (timesB xs ys))) rfl) ?_
      refine L.nil ?_
      refine W.seq ?_
      refine W.seq ?_
      refine W.region ?_
      refine L.v (o_move (v := (.slice p288 ((timesF xs ys).length) c289)) rfl) ?_
      refine L.v (o_move (v := (.slice p30 ((timesF xs ys).length) c31)) rfl) ?_
      refine L.v (v := (.bool true)) (op_call [(.slice p288 ((timesF xs ys).length) c289), (.slice p30 ((timesF xs ys).length) c31)] Try.call15 rfl (eqF32S p288 p30 c289 c31 (timesF xs ys) (Fsl.reads fs291) hs310 (by first | omega | exact timesF_le _ _))) ?_
      refine L.v (o_not (b := true) (c := false) rfl rfl) ?_
      refine L.v (o_move (v := (.bool false)) rfl) ?_
      refine L.gv (j := 4) (d₁ := 101) (b := false) rfl rfl rfl rfl (o_move (v := (.bool (timesB xs ys))) rfl) ?_
      refine L.gv (j := 4) (d₁ := 101) (b := false) rfl rfl rfl rfl (o_move (v := (.bool (timesB xs ys))) rfl) ?_
      refine L.gv (j := 4) (d₁ := 101) (b := false) rfl rfl rfl rfl (o_bneq (a := timesB xs ys) (b := timesB xs ys) (c := false) Try.underlying4 rfl rfl (by simp)) ?_
      refine L.v (o_pickF (b := false) (v := (.bool false)) rfl rfl rfl) ?_
      refine L.nil ?_
      refine W.condF (b := false) rfl rfl ?_
      refine W.skip ?_
      refine W.seq ?_
      refine W.region ?_
      refine L.v (o_assign (v := (.int .i64 1)) rfl) ?_
      refine L.nil ?_
      refine W.seq ?_
      refine W.region ?_
      refine L.v (o_move (v := (.slice p87 ((timesF xs ys).length) c88)) rfl) ?_
      refine L.v (o_move (v := (.int .i64 1)) rfl) ?_
      refine L.v (v := (.int .i64 (1 + (((timesF xs ys).length : Nat) : Int)))) (op_call [(.slice p87 ((timesF xs ys).length) c88), (.int .i64 1)] Try.call23 rfl (heldF p87 ((timesF xs ys).length) c88 1 hs314 (by first | omega | exact timesF_le _ _) (by omega))) ?_
      refine L.v (o_assign (v := (.int .i64 (1 + (((timesF xs ys).length : Nat) : Int)))) rfl) ?_
      refine L.nil ?_
      refine W.seq ?_
      refine W.seq ?_
      refine W.region ?_
      refine L.v (o_move (v := (.int .i64 (1 + (((timesF xs ys).length : Nat) : Int)))) rfl) ?_
      refine L.v (o_ilss (a := 1 + (((timesF xs ys).length : Nat) : Int)) (b := 0) rfl rfl rfl) ?_
      refine L.nil ?_
      refine W.condF (b := decide ((1 + (((timesF xs ys).length : Nat) : Int) : Int) < 0)) rfl (decide_eq_false (by omega)) ?_
      refine W.skip ?_
      refine W.seq ?_
      refine W.seq ?_
      refine W.region ?_
      refine L.v (o_move (v := (.int .i64 (1 + (((timesF xs ys).length : Nat) : Int)))) rfl) ?_
      refine L.v (o_move (v := (.int .i64 (1 + (((timesF xs ys).length : Nat) : Int)))) rfl) ?_
      refine L.v (o_ineq (a := 1 + (((timesF xs ys).length : Nat) : Int)) (b := 1 + (((timesF xs ys).length : Nat) : Int)) (c := false) rfl rfl (by simp)) ?_
      refine L.nil ?_
      refine W.condF (b := false) rfl rfl ?_
      refine W.skip ?_
      refine W.seq ?_
      refine W.region ?_
      refine L.v (o_assign (v := (.bool true)) rfl) ?_
      refine L.nil ?_
      refine W.ret ?_
      exact RetK.one _ (.bool true) rfl rfl (Ext.refl _) rfl

end Go.Proofs.Ytakeanehgfbbaaa.En
