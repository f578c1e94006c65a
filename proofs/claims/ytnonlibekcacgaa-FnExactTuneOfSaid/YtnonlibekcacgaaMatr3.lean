/- The matrix of a line in the program and in the reference. -/
import Derived.Test.YtnonlibekcacgaaLine3
import Derived.Test.YtnonlibekcacgaaRows
namespace Go.Proofs.Ytnonlibekcacgaa.En
open Go
set_option linter.unusedVariables false
set_option maxRecDepth 100000
def timesM (xs ys : List Nat) : List Nat :=
  [fop .add .f32 (fop .mul .f32 (xs.getD 0 0) (ys.getD 0 0)) (fop .mul .f32 (xs.getD 1 0) (ys.getD 2 0)),
    fop .add .f32 (fop .mul .f32 (xs.getD 0 0) (ys.getD 1 0)) (fop .mul .f32 (xs.getD 1 0) (ys.getD 3 0)),
    fop .add .f32 (fop .mul .f32 (xs.getD 2 0) (ys.getD 0 0)) (fop .mul .f32 (xs.getD 3 0) (ys.getD 2 0)),
    fop .add .f32 (fop .mul .f32 (xs.getD 2 0) (ys.getD 1 0)) (fop .mul .f32 (xs.getD 3 0) (ys.getD 3 0))]
def elM (a : Int) (u : Nat) : List Nat := if a = 0 then [1065353216, u, 0, 1065353216] else if a = 1 then [1065353216, 0, fop .quo .f32 3212836864 u, 1065353216] else [1065353216, 0, 0, 1065353216]
theorem elM_0 {a : Int} {u : Nat} (h : a = 0) : elM a u = [1065353216, u, 0, 1065353216] := if_pos h
theorem elM_1 {a : Int} {u : Nat} (h : ¬ a = 0) (h1 : a = 1) : elM a u = [1065353216, 0, fop .quo .f32 3212836864 u, 1065353216] := by rw [elM, if_neg h, if_pos h1]
theorem elM_2 {a : Int} {u : Nat} (h : ¬ a = 0) (h1 : ¬ a = 1) : elM a u = [1065353216, 0, 0, 1065353216] := by rw [elM, if_neg h, if_neg h1]
@[simp] theorem elM_len (a : Int) (u : Nat) : (elM a u).length = 4 := by
  unfold elM; split
  · rfl
  · split <;> rfl
theorem elM_eta (a : Int) (u : Nat) : elM a u = elM a u := rfl
def matTo (xs : List (Int × Nat × Nat)) : Nat → List Nat
  | 0 => [1065353216, 0, 0, 1065353216]
  | i + 1 => timesM (elM (xs.getD i (0, 0, 0)).1 (xs.getD i (0, 0, 0)).2.1) (matTo xs i)
@[simp] theorem timesM_len (xs ys : List Nat) : (timesM xs ys).length = 4 := rfl
@[simp] theorem matTo_len (xs : List (Int × Nat × Nat)) (i : Nat) : (matTo xs i).length = 4 := by cases i <;> rfl
def matF (xs : List (Int × Nat × Nat)) : List Nat := if lineOk xs = true then matTo xs xs.length else []
theorem matF_yes {xs : List (Int × Nat × Nat)} (h : lineOk xs = true) : matF xs = matTo xs xs.length := if_pos h
theorem matF_no {xs : List (Int × Nat × Nat)} (h : lineOk xs = false) : matF xs = [] := if_neg (by rw [h]; decide)
theorem matF_le (xs : List (Int × Nat × Nat)) : (matF xs).length ≤ 1048576 := by
  unfold matF; split
  · rw [matTo_len]; decide
  · simp
theorem specTimesM {w0 : World} {σ : Sg} (p : Option Addr) (c : Nat) (xs : List Nat) (hs : Sl σ 1 p (xs.map fl)) (q : Option Addr) (d : Nat) (ys : List Nat) (hq : Sl σ 1 q (ys.map fl)) (hx : xs.length = 4) (hy : ys.length = 4) :
    Fn Try.prog w0 98 [(.slice p xs.length c), (.slice q ys.length d)] σ (RetFS w0 σ 1 ((timesM xs ys).map fl) 4 id) := by
  refine Fn.of_W 66 Try.func98 rfl Try.ntmps98 rfl ?_
  refine W.seq ?_
  refine W.region ?_
  refine L.v (o_assign (v := (.slice none 0 0)) rfl) ?_
  refine L.nil ?_
  refine W.seq ?_
  obtain ⟨b1, o2, rfl, _⟩ := hs.elem 0 (by omega) 0
  obtain ⟨b3, o4, rfl, _⟩ := hq.elem 0 (by omega) 0
  refine W.draw [true, true, true, true, true, true, true, true, true, true, true, true, true, true, true, true, true, true, true, true, true, true, true, true, true, true, true, true, true, true, true, true, true, true, true, true, true, true, true, true, true, true, true, true, true, true, true, true, true, true, true, true, true, true, true, true, true, true, true, true, false, true] (fun s => Ext σ s) (by kernel_rfl) (by kernel_rfl) ?_
  refine DL.v (fun _ hD => o_move (v := (.slice (some ⟨b1, o2, none⟩) xs.length c)) rfl) ?_
  refine DL.v (fun _ hD => o_indexAddr (b := b1) (off := o2) (n := xs.length) (c := c) 0 Try.underlying32 Try.sizeOf24 rfl rfl (by omega)) ?_
  refine DL.v (fun _ hD => o_load (b := b1) (off := o2 + 0 * 1) (v := (.float .f32 (xs.getD 0 0))) Try.isAgg24 rfl (Rds.fst (Sl.at (Sl.ext hs hD) 0 (by omega) 0)) rfl) ?_
  refine DL.v (fun _ hD => o_move (v := (.slice (some ⟨b3, o4, none⟩) ys.length d)) rfl) ?_
  refine DL.v (fun _ hD => o_indexAddr (b := b3) (off := o4) (n := ys.length) (c := d) 0 Try.underlying32 Try.sizeOf24 rfl rfl (by omega)) ?_
  refine DL.v (fun _ hD => o_load (b := b3) (off := o4 + 0 * 1) (v := (.float .f32 (ys.getD 0 0))) Try.isAgg24 rfl (Rds.fst (Sl.at (Sl.ext hq hD) 0 (by omega) 0)) rfl) ?_
  refine DL.v (fun _ hD => o_farith (k := .f32) (a := xs.getD 0 0) (b := ys.getD 0 0) rfl rfl rfl) ?_
  refine DL.v (fun _ hD => o_move (v := (.slice (some ⟨b1, o2, none⟩) xs.length c)) rfl) ?_
  refine DL.v (fun _ hD => o_indexAddr (b := b1) (off := o2) (n := xs.length) (c := c) 1 Try.underlying32 Try.sizeOf24 rfl rfl (by omega)) ?_
  refine DL.v (fun _ hD => o_load (b := b1) (off := o2 + 1 * 1) (v := (.float .f32 (xs.getD 1 0))) Try.isAgg24 rfl (Rds.fst (Sl.at (Sl.ext hs hD) 1 (by omega) 0)) rfl) ?_
  refine DL.v (fun _ hD => o_move (v := (.slice (some ⟨b3, o4, none⟩) ys.length d)) rfl) ?_
  refine DL.v (fun _ hD => o_indexAddr (b := b3) (off := o4) (n := ys.length) (c := d) 2 Try.underlying32 Try.sizeOf24 rfl rfl (by omega)) ?_
  refine DL.v (fun _ hD => o_load (b := b3) (off := o4 + 2 * 1) (v := (.float .f32 (ys.getD 2 0))) Try.isAgg24 rfl (Rds.fst (Sl.at (Sl.ext hq hD) 2 (by omega) 0)) rfl) ?_
  refine DL.v (fun _ hD => o_farith (k := .f32) (a := xs.getD 1 0) (b := ys.getD 2 0) rfl rfl rfl) ?_
  refine DL.v (fun _ hD => o_farith (k := .f32) (a := fop .mul .f32 (xs.getD 0 0) (ys.getD 0 0)) (b := fop .mul .f32 (xs.getD 1 0) (ys.getD 2 0)) rfl rfl rfl) ?_
  refine DL.v (fun _ hD => o_move (v := (.slice (some ⟨b1, o2, none⟩) xs.length c)) rfl) ?_
  refine DL.v (fun _ hD => o_indexAddr (b := b1) (off := o2) (n := xs.length) (c := c) 0 Try.underlying32 Try.sizeOf24 rfl rfl (by omega)) ?_
  refine DL.v (fun _ hD => o_load (b := b1) (off := o2 + 0 * 1) (v := (.float .f32 (xs.getD 0 0))) Try.isAgg24 rfl (Rds.fst (Sl.at (Sl.ext hs hD) 0 (by omega) 0)) rfl) ?_
  refine DL.v (fun _ hD => o_move (v := (.slice (some ⟨b3, o4, none⟩) ys.length d)) rfl) ?_
  refine DL.v (fun _ hD => o_indexAddr (b := b3) (off := o4) (n := ys.length) (c := d) 1 Try.underlying32 Try.sizeOf24 rfl rfl (by omega)) ?_
  refine DL.v (fun _ hD => o_load (b := b3) (off := o4 + 1 * 1) (v := (.float .f32 (ys.getD 1 0))) Try.isAgg24 rfl (Rds.fst (Sl.at (Sl.ext hq hD) 1 (by omega) 0)) rfl) ?_
  refine DL.v (fun _ hD => o_farith (k := .f32) (a := xs.getD 0 0) (b := ys.getD 1 0) rfl rfl rfl) ?_
  refine DL.v (fun _ hD => o_move (v := (.slice (some ⟨b1, o2, none⟩) xs.length c)) rfl) ?_
  refine DL.v (fun _ hD => o_indexAddr (b := b1) (off := o2) (n := xs.length) (c := c) 1 Try.underlying32 Try.sizeOf24 rfl rfl (by omega)) ?_
  refine DL.v (fun _ hD => o_load (b := b1) (off := o2 + 1 * 1) (v := (.float .f32 (xs.getD 1 0))) Try.isAgg24 rfl (Rds.fst (Sl.at (Sl.ext hs hD) 1 (by omega) 0)) rfl) ?_
  refine DL.v (fun _ hD => o_move (v := (.slice (some ⟨b3, o4, none⟩) ys.length d)) rfl) ?_
  refine DL.v (fun _ hD => o_indexAddr (b := b3) (off := o4) (n := ys.length) (c := d) 3 Try.underlying32 Try.sizeOf24 rfl rfl (by omega)) ?_
  refine DL.v (fun _ hD => o_load (b := b3) (off := o4 + 3 * 1) (v := (.float .f32 (ys.getD 3 0))) Try.isAgg24 rfl (Rds.fst (Sl.at (Sl.ext hq hD) 3 (by omega) 0)) rfl) ?_
  refine DL.v (fun _ hD => o_farith (k := .f32) (a := xs.getD 1 0) (b := ys.getD 3 0) rfl rfl rfl) ?_
  refine DL.v (fun _ hD => o_farith (k := .f32) (a := fop .mul .f32 (xs.getD 0 0) (ys.getD 1 0)) (b := fop .mul .f32 (xs.getD 1 0) (ys.getD 3 0)) rfl rfl rfl) ?_
  refine DL.v (fun _ hD => o_move (v := (.slice (some ⟨b1, o2, none⟩) xs.length c)) rfl) ?_
  refine DL.v (fun _ hD => o_indexAddr (b := b1) (off := o2) (n := xs.length) (c := c) 2 Try.underlying32 Try.sizeOf24 rfl rfl (by omega)) ?_
  refine DL.v (fun _ hD => o_load (b := b1) (off := o2 + 2 * 1) (v := (.float .f32 (xs.getD 2 0))) Try.isAgg24 rfl (Rds.fst (Sl.at (Sl.ext hs hD) 2 (by omega) 0)) rfl) ?_
  refine DL.v (fun _ hD => o_move (v := (.slice (some ⟨b3, o4, none⟩) ys.length d)) rfl) ?_
  refine DL.v (fun _ hD => o_indexAddr (b := b3) (off := o4) (n := ys.length) (c := d) 0 Try.underlying32 Try.sizeOf24 rfl rfl (by omega)) ?_
  refine DL.v (fun _ hD => o_load (b := b3) (off := o4 + 0 * 1) (v := (.float .f32 (ys.getD 0 0))) Try.isAgg24 rfl (Rds.fst (Sl.at (Sl.ext hq hD) 0 (by omega) 0)) rfl) ?_
  refine DL.v (fun _ hD => o_farith (k := .f32) (a := xs.getD 2 0) (b := ys.getD 0 0) rfl rfl rfl) ?_
  refine DL.v (fun _ hD => o_move (v := (.slice (some ⟨b1, o2, none⟩) xs.length c)) rfl) ?_
  refine DL.v (fun _ hD => o_indexAddr (b := b1) (off := o2) (n := xs.length) (c := c) 3 Try.underlying32 Try.sizeOf24 rfl rfl (by omega)) ?_
  refine DL.v (fun _ hD => o_load (b := b1) (off := o2 + 3 * 1) (v := (.float .f32 (xs.getD 3 0))) Try.isAgg24 rfl (Rds.fst (Sl.at (Sl.ext hs hD) 3 (by omega) 0)) rfl) ?_
  refine DL.v (fun _ hD => o_move (v := (.slice (some ⟨b3, o4, none⟩) ys.length d)) rfl) ?_
  refine DL.v (fun _ hD => o_indexAddr (b := b3) (off := o4) (n := ys.length) (c := d) 2 Try.underlying32 Try.sizeOf24 rfl rfl (by omega)) ?_
  refine DL.v (fun _ hD => o_load (b := b3) (off := o4 + 2 * 1) (v := (.float .f32 (ys.getD 2 0))) Try.isAgg24 rfl (Rds.fst (Sl.at (Sl.ext hq hD) 2 (by omega) 0)) rfl) ?_
  refine DL.v (fun _ hD => o_farith (k := .f32) (a := xs.getD 3 0) (b := ys.getD 2 0) rfl rfl rfl) ?_
  refine DL.v (fun _ hD => o_farith (k := .f32) (a := fop .mul .f32 (xs.getD 2 0) (ys.getD 0 0)) (b := fop .mul .f32 (xs.getD 3 0) (ys.getD 2 0)) rfl rfl rfl) ?_
  refine DL.v (fun _ hD => o_move (v := (.slice (some ⟨b1, o2, none⟩) xs.length c)) rfl) ?_
  refine DL.v (fun _ hD => o_indexAddr (b := b1) (off := o2) (n := xs.length) (c := c) 2 Try.underlying32 Try.sizeOf24 rfl rfl (by omega)) ?_
  refine DL.v (fun _ hD => o_load (b := b1) (off := o2 + 2 * 1) (v := (.float .f32 (xs.getD 2 0))) Try.isAgg24 rfl (Rds.fst (Sl.at (Sl.ext hs hD) 2 (by omega) 0)) rfl) ?_
  refine DL.v (fun _ hD => o_move (v := (.slice (some ⟨b3, o4, none⟩) ys.length d)) rfl) ?_
  refine DL.v (fun _ hD => o_indexAddr (b := b3) (off := o4) (n := ys.length) (c := d) 1 Try.underlying32 Try.sizeOf24 rfl rfl (by omega)) ?_
  refine DL.v (fun _ hD => o_load (b := b3) (off := o4 + 1 * 1) (v := (.float .f32 (ys.getD 1 0))) Try.isAgg24 rfl (Rds.fst (Sl.at (Sl.ext hq hD) 1 (by omega) 0)) rfl) ?_
  refine DL.v (fun _ hD => o_farith (k := .f32) (a := xs.getD 2 0) (b := ys.getD 1 0) rfl rfl rfl) ?_
  refine DL.v (fun _ hD => o_move (v := (.slice (some ⟨b1, o2, none⟩) xs.length c)) rfl) ?_
  refine DL.v (fun _ hD => o_indexAddr (b := b1) (off := o2) (n := xs.length) (c := c) 3 Try.underlying32 Try.sizeOf24 rfl rfl (by omega)) ?_
  refine DL.v (fun _ hD => o_load (b := b1) (off := o2 + 3 * 1) (v := (.float .f32 (xs.getD 3 0))) Try.isAgg24 rfl (Rds.fst (Sl.at (Sl.ext hs hD) 3 (by omega) 0)) rfl) ?_
  refine DL.v (fun _ hD => o_move (v := (.slice (some ⟨b3, o4, none⟩) ys.length d)) rfl) ?_
  refine DL.v (fun _ hD => o_indexAddr (b := b3) (off := o4) (n := ys.length) (c := d) 3 Try.underlying32 Try.sizeOf24 rfl rfl (by omega)) ?_
  refine DL.v (fun _ hD => o_load (b := b3) (off := o4 + 3 * 1) (v := (.float .f32 (ys.getD 3 0))) Try.isAgg24 rfl (Rds.fst (Sl.at (Sl.ext hq hD) 3 (by omega) 0)) rfl) ?_
  refine DL.v (fun _ hD => o_farith (k := .f32) (a := xs.getD 3 0) (b := ys.getD 3 0) rfl rfl rfl) ?_
  refine DL.v (fun _ hD => o_farith (k := .f32) (a := fop .mul .f32 (xs.getD 2 0) (ys.getD 1 0)) (b := fop .mul .f32 (xs.getD 3 0) (ys.getD 3 0)) rfl rfl rfl) ?_
  refine DL.e (Ext.refl _) (o_buildSlice (info := Try.t24) (z := .float .f32 0) [(.float .f32 (fop .add .f32 (fop .mul .f32 (xs.getD 0 0) (ys.getD 0 0)) (fop .mul .f32 (xs.getD 1 0) (ys.getD 2 0)))), (.float .f32 (fop .add .f32 (fop .mul .f32 (xs.getD 0 0) (ys.getD 1 0)) (fop .mul .f32 (xs.getD 1 0) (ys.getD 3 0)))), (.float .f32 (fop .add .f32 (fop .mul .f32 (xs.getD 2 0) (ys.getD 0 0)) (fop .mul .f32 (xs.getD 3 0) (ys.getD 2 0)))), (.float .f32 (fop .add .f32 (fop .mul .f32 (xs.getD 2 0) (ys.getD 1 0)) (fop .mul .f32 (xs.getD 3 0) (ys.getD 3 0))))] Try.underlying32 Try.type24 rfl rfl rfl rfl (by decide) rfl rfl (by simp [Value.oneCell'])) ?_
  rintro _ _ ⟨b5, hf6, hw7, rfl, rfl⟩
  refine DL.v (fun _ hD => o_assign (v := (.slice (some ⟨b5, 0, none⟩) 4 4)) rfl) ?_
  refine DL.nil ((Ext.refl _).sg hf6) ?_
  refine W.ret ?_
  rw [show [(.float .f32 (fop .add .f32 (fop .mul .f32 (xs.getD 0 0) (ys.getD 0 0)) (fop .mul .f32 (xs.getD 1 0) (ys.getD 2 0)))), (.float .f32 (fop .add .f32 (fop .mul .f32 (xs.getD 0 0) (ys.getD 1 0)) (fop .mul .f32 (xs.getD 1 0) (ys.getD 3 0)))), (.float .f32 (fop .add .f32 (fop .mul .f32 (xs.getD 2 0) (ys.getD 0 0)) (fop .mul .f32 (xs.getD 3 0) (ys.getD 2 0)))), (.float .f32 (fop .add .f32 (fop .mul .f32 (xs.getD 2 0) (ys.getD 1 0)) (fop .mul .f32 (xs.getD 3 0) (ys.getD 3 0))))] = ((timesM xs ys).map fl).flatten from rfl]
  exact RetK.one _ (.slice (some ⟨b5, 0, none⟩) 4 4) rfl rfl (Ext.refl _) ⟨_, 4, rfl, Fsl.of_newB hf6 hw7 (by simp [fl])⟩

theorem implTimesM {w0 : World} {σ : Sg} (p : Option Addr) (c : Nat) (xs : List Nat) (hs : Sl σ 1 p (xs.map fl)) (q : Option Addr) (d : Nat) (ys : List Nat) (hq : Sl σ 1 q (ys.map fl)) (hx : xs.length = 4) (hy : ys.length = 4) :
    Fn Try.prog w0 104 [(.slice p xs.length c), (.slice q ys.length d)] σ (RetFS w0 σ 1 ((timesM xs ys).map fl) 4 id) := by
  refine Fn.of_W 66 Try.func104 rfl Try.ntmps104 rfl ?_
  refine W.seq ?_
  refine W.region ?_
  refine L.v (o_assign (v := (.slice none 0 0)) rfl) ?_
  refine L.nil ?_
  refine W.seq ?_
  obtain ⟨b1, o2, rfl, _⟩ := hs.elem 0 (by omega) 0
  obtain ⟨b3, o4, rfl, _⟩ := hq.elem 0 (by omega) 0
  refine W.draw [true, true, true, true, true, true, true, true, true, true, true, true, true, true, true, true, true, true, true, true, true, true, true, true, true, true, true, true, true, true, true, true, true, true, true, true, true, true, true, true, true, true, true, true, true, true, true, true, true, true, true, true, true, true, true, true, true, true, true, true, false, true] (fun s => Ext σ s) (by kernel_rfl) (by kernel_rfl) ?_
  refine DL.v (fun _ hD => o_move (v := (.slice (some ⟨b1, o2, none⟩) xs.length c)) rfl) ?_
  refine DL.v (fun _ hD => o_indexAddr (b := b1) (off := o2) (n := xs.length) (c := c) 0 Try.underlying32 Try.sizeOf24 rfl rfl (by omega)) ?_
  refine DL.v (fun _ hD => o_load (b := b1) (off := o2 + 0 * 1) (v := (.float .f32 (xs.getD 0 0))) Try.isAgg24 rfl (Rds.fst (Sl.at (Sl.ext hs hD) 0 (by omega) 0)) rfl) ?_
  refine DL.v (fun _ hD => o_move (v := (.slice (some ⟨b3, o4, none⟩) ys.length d)) rfl) ?_
  refine DL.v (fun _ hD => o_indexAddr (b := b3) (off := o4) (n := ys.length) (c := d) 0 Try.underlying32 Try.sizeOf24 rfl rfl (by omega)) ?_
  refine DL.v (fun _ hD => o_load (b := b3) (off := o4 + 0 * 1) (v := (.float .f32 (ys.getD 0 0))) Try.isAgg24 rfl (Rds.fst (Sl.at (Sl.ext hq hD) 0 (by omega) 0)) rfl) ?_
  refine DL.v (fun _ hD => o_farith (k := .f32) (a := xs.getD 0 0) (b := ys.getD 0 0) rfl rfl rfl) ?_
  refine DL.v (fun _ hD => o_move (v := (.slice (some ⟨b1, o2, none⟩) xs.length c)) rfl) ?_
  refine DL.v (fun _ hD => o_indexAddr (b := b1) (off := o2) (n := xs.length) (c := c) 1 Try.underlying32 Try.sizeOf24 rfl rfl (by omega)) ?_
  refine DL.v (fun _ hD => o_load (b := b1) (off := o2 + 1 * 1) (v := (.float .f32 (xs.getD 1 0))) Try.isAgg24 rfl (Rds.fst (Sl.at (Sl.ext hs hD) 1 (by omega) 0)) rfl) ?_
  refine DL.v (fun _ hD => o_move (v := (.slice (some ⟨b3, o4, none⟩) ys.length d)) rfl) ?_
  refine DL.v (fun _ hD => o_indexAddr (b := b3) (off := o4) (n := ys.length) (c := d) 2 Try.underlying32 Try.sizeOf24 rfl rfl (by omega)) ?_
  refine DL.v (fun _ hD => o_load (b := b3) (off := o4 + 2 * 1) (v := (.float .f32 (ys.getD 2 0))) Try.isAgg24 rfl (Rds.fst (Sl.at (Sl.ext hq hD) 2 (by omega) 0)) rfl) ?_
  refine DL.v (fun _ hD => o_farith (k := .f32) (a := xs.getD 1 0) (b := ys.getD 2 0) rfl rfl rfl) ?_
  refine DL.v (fun _ hD => o_farith (k := .f32) (a := fop .mul .f32 (xs.getD 0 0) (ys.getD 0 0)) (b := fop .mul .f32 (xs.getD 1 0) (ys.getD 2 0)) rfl rfl rfl) ?_
  refine DL.v (fun _ hD => o_move (v := (.slice (some ⟨b1, o2, none⟩) xs.length c)) rfl) ?_
  refine DL.v (fun _ hD => o_indexAddr (b := b1) (off := o2) (n := xs.length) (c := c) 0 Try.underlying32 Try.sizeOf24 rfl rfl (by omega)) ?_
  refine DL.v (fun _ hD => o_load (b := b1) (off := o2 + 0 * 1) (v := (.float .f32 (xs.getD 0 0))) Try.isAgg24 rfl (Rds.fst (Sl.at (Sl.ext hs hD) 0 (by omega) 0)) rfl) ?_
  refine DL.v (fun _ hD => o_move (v := (.slice (some ⟨b3, o4, none⟩) ys.length d)) rfl) ?_
  refine DL.v (fun _ hD => o_indexAddr (b := b3) (off := o4) (n := ys.length) (c := d) 1 Try.underlying32 Try.sizeOf24 rfl rfl (by omega)) ?_
  refine DL.v (fun _ hD => o_load (b := b3) (off := o4 + 1 * 1) (v := (.float .f32 (ys.getD 1 0))) Try.isAgg24 rfl (Rds.fst (Sl.at (Sl.ext hq hD) 1 (by omega) 0)) rfl) ?_
  refine DL.v (fun _ hD => o_farith (k := .f32) (a := xs.getD 0 0) (b := ys.getD 1 0) rfl rfl rfl) ?_
  refine DL.v (fun _ hD => o_move (v := (.slice (some ⟨b1, o2, none⟩) xs.length c)) rfl) ?_
  refine DL.v (fun _ hD => o_indexAddr (b := b1) (off := o2) (n := xs.length) (c := c) 1 Try.underlying32 Try.sizeOf24 rfl rfl (by omega)) ?_
  refine DL.v (fun _ hD => o_load (b := b1) (off := o2 + 1 * 1) (v := (.float .f32 (xs.getD 1 0))) Try.isAgg24 rfl (Rds.fst (Sl.at (Sl.ext hs hD) 1 (by omega) 0)) rfl) ?_
  refine DL.v (fun _ hD => o_move (v := (.slice (some ⟨b3, o4, none⟩) ys.length d)) rfl) ?_
  refine DL.v (fun _ hD => o_indexAddr (b := b3) (off := o4) (n := ys.length) (c := d) 3 Try.underlying32 Try.sizeOf24 rfl rfl (by omega)) ?_
  refine DL.v (fun _ hD => o_load (b := b3) (off := o4 + 3 * 1) (v := (.float .f32 (ys.getD 3 0))) Try.isAgg24 rfl (Rds.fst (Sl.at (Sl.ext hq hD) 3 (by omega) 0)) rfl) ?_
  refine DL.v (fun _ hD => o_farith (k := .f32) (a := xs.getD 1 0) (b := ys.getD 3 0) rfl rfl rfl) ?_
  refine DL.v (fun _ hD => o_farith (k := .f32) (a := fop .mul .f32 (xs.getD 0 0) (ys.getD 1 0)) (b := fop .mul .f32 (xs.getD 1 0) (ys.getD 3 0)) rfl rfl rfl) ?_
  refine DL.v (fun _ hD => o_move (v := (.slice (some ⟨b1, o2, none⟩) xs.length c)) rfl) ?_
  refine DL.v (fun _ hD => o_indexAddr (b := b1) (off := o2) (n := xs.length) (c := c) 2 Try.underlying32 Try.sizeOf24 rfl rfl (by omega)) ?_
  refine DL.v (fun _ hD => o_load (b := b1) (off := o2 + 2 * 1) (v := (.float .f32 (xs.getD 2 0))) Try.isAgg24 rfl (Rds.fst (Sl.at (Sl.ext hs hD) 2 (by omega) 0)) rfl) ?_
  refine DL.v (fun _ hD => o_move (v := (.slice (some ⟨b3, o4, none⟩) ys.length d)) rfl) ?_
  refine DL.v (fun _ hD => o_indexAddr (b := b3) (off := o4) (n := ys.length) (c := d) 0 Try.underlying32 Try.sizeOf24 rfl rfl (by omega)) ?_
  refine DL.v (fun _ hD => o_load (b := b3) (off := o4 + 0 * 1) (v := (.float .f32 (ys.getD 0 0))) Try.isAgg24 rfl (Rds.fst (Sl.at (Sl.ext hq hD) 0 (by omega) 0)) rfl) ?_
  refine DL.v (fun _ hD => o_farith (k := .f32) (a := xs.getD 2 0) (b := ys.getD 0 0) rfl rfl rfl) ?_
  refine DL.v (fun _ hD => o_move (v := (.slice (some ⟨b1, o2, none⟩) xs.length c)) rfl) ?_
  refine DL.v (fun _ hD => o_indexAddr (b := b1) (off := o2) (n := xs.length) (c := c) 3 Try.underlying32 Try.sizeOf24 rfl rfl (by omega)) ?_
  refine DL.v (fun _ hD => o_load (b := b1) (off := o2 + 3 * 1) (v := (.float .f32 (xs.getD 3 0))) Try.isAgg24 rfl (Rds.fst (Sl.at (Sl.ext hs hD) 3 (by omega) 0)) rfl) ?_
  refine DL.v (fun _ hD => o_move (v := (.slice (some ⟨b3, o4, none⟩) ys.length d)) rfl) ?_
  refine DL.v (fun _ hD => o_indexAddr (b := b3) (off := o4) (n := ys.length) (c := d) 2 Try.underlying32 Try.sizeOf24 rfl rfl (by omega)) ?_
  refine DL.v (fun _ hD => o_load (b := b3) (off := o4 + 2 * 1) (v := (.float .f32 (ys.getD 2 0))) Try.isAgg24 rfl (Rds.fst (Sl.at (Sl.ext hq hD) 2 (by omega) 0)) rfl) ?_
  refine DL.v (fun _ hD => o_farith (k := .f32) (a := xs.getD 3 0) (b := ys.getD 2 0) rfl rfl rfl) ?_
  refine DL.v (fun _ hD => o_farith (k := .f32) (a := fop .mul .f32 (xs.getD 2 0) (ys.getD 0 0)) (b := fop .mul .f32 (xs.getD 3 0) (ys.getD 2 0)) rfl rfl rfl) ?_
  refine DL.v (fun _ hD => o_move (v := (.slice (some ⟨b1, o2, none⟩) xs.length c)) rfl) ?_
  refine DL.v (fun _ hD => o_indexAddr (b := b1) (off := o2) (n := xs.length) (c := c) 2 Try.underlying32 Try.sizeOf24 rfl rfl (by omega)) ?_
  refine DL.v (fun _ hD => o_load (b := b1) (off := o2 + 2 * 1) (v := (.float .f32 (xs.getD 2 0))) Try.isAgg24 rfl (Rds.fst (Sl.at (Sl.ext hs hD) 2 (by omega) 0)) rfl) ?_
  refine DL.v (fun _ hD => o_move (v := (.slice (some ⟨b3, o4, none⟩) ys.length d)) rfl) ?_
  refine DL.v (fun _ hD => o_indexAddr (b := b3) (off := o4) (n := ys.length) (c := d) 1 Try.underlying32 Try.sizeOf24 rfl rfl (by omega)) ?_
  refine DL.v (fun _ hD => o_load (b := b3) (off := o4 + 1 * 1) (v := (.float .f32 (ys.getD 1 0))) Try.isAgg24 rfl (Rds.fst (Sl.at (Sl.ext hq hD) 1 (by omega) 0)) rfl) ?_
  refine DL.v (fun _ hD => o_farith (k := .f32) (a := xs.getD 2 0) (b := ys.getD 1 0) rfl rfl rfl) ?_
  refine DL.v (fun _ hD => o_move (v := (.slice (some ⟨b1, o2, none⟩) xs.length c)) rfl) ?_
  refine DL.v (fun _ hD => o_indexAddr (b := b1) (off := o2) (n := xs.length) (c := c) 3 Try.underlying32 Try.sizeOf24 rfl rfl (by omega)) ?_
  refine DL.v (fun _ hD => o_load (b := b1) (off := o2 + 3 * 1) (v := (.float .f32 (xs.getD 3 0))) Try.isAgg24 rfl (Rds.fst (Sl.at (Sl.ext hs hD) 3 (by omega) 0)) rfl) ?_
  refine DL.v (fun _ hD => o_move (v := (.slice (some ⟨b3, o4, none⟩) ys.length d)) rfl) ?_
  refine DL.v (fun _ hD => o_indexAddr (b := b3) (off := o4) (n := ys.length) (c := d) 3 Try.underlying32 Try.sizeOf24 rfl rfl (by omega)) ?_
  refine DL.v (fun _ hD => o_load (b := b3) (off := o4 + 3 * 1) (v := (.float .f32 (ys.getD 3 0))) Try.isAgg24 rfl (Rds.fst (Sl.at (Sl.ext hq hD) 3 (by omega) 0)) rfl) ?_
  refine DL.v (fun _ hD => o_farith (k := .f32) (a := xs.getD 3 0) (b := ys.getD 3 0) rfl rfl rfl) ?_
  refine DL.v (fun _ hD => o_farith (k := .f32) (a := fop .mul .f32 (xs.getD 2 0) (ys.getD 1 0)) (b := fop .mul .f32 (xs.getD 3 0) (ys.getD 3 0)) rfl rfl rfl) ?_
  refine DL.e (Ext.refl _) (o_buildSlice (info := Try.t24) (z := .float .f32 0) [(.float .f32 (fop .add .f32 (fop .mul .f32 (xs.getD 0 0) (ys.getD 0 0)) (fop .mul .f32 (xs.getD 1 0) (ys.getD 2 0)))), (.float .f32 (fop .add .f32 (fop .mul .f32 (xs.getD 0 0) (ys.getD 1 0)) (fop .mul .f32 (xs.getD 1 0) (ys.getD 3 0)))), (.float .f32 (fop .add .f32 (fop .mul .f32 (xs.getD 2 0) (ys.getD 0 0)) (fop .mul .f32 (xs.getD 3 0) (ys.getD 2 0)))), (.float .f32 (fop .add .f32 (fop .mul .f32 (xs.getD 2 0) (ys.getD 1 0)) (fop .mul .f32 (xs.getD 3 0) (ys.getD 3 0))))] Try.underlying32 Try.type24 rfl rfl rfl rfl (by decide) rfl rfl (by simp [Value.oneCell'])) ?_
  rintro _ _ ⟨b5, hf6, hw7, rfl, rfl⟩
  refine DL.v (fun _ hD => o_assign (v := (.slice (some ⟨b5, 0, none⟩) 4 4)) rfl) ?_
  refine DL.nil ((Ext.refl _).sg hf6) ?_
  refine W.ret ?_
  rw [show [(.float .f32 (fop .add .f32 (fop .mul .f32 (xs.getD 0 0) (ys.getD 0 0)) (fop .mul .f32 (xs.getD 1 0) (ys.getD 2 0)))), (.float .f32 (fop .add .f32 (fop .mul .f32 (xs.getD 0 0) (ys.getD 1 0)) (fop .mul .f32 (xs.getD 1 0) (ys.getD 3 0)))), (.float .f32 (fop .add .f32 (fop .mul .f32 (xs.getD 2 0) (ys.getD 0 0)) (fop .mul .f32 (xs.getD 3 0) (ys.getD 2 0)))), (.float .f32 (fop .add .f32 (fop .mul .f32 (xs.getD 2 0) (ys.getD 1 0)) (fop .mul .f32 (xs.getD 3 0) (ys.getD 3 0))))] = ((timesM xs ys).map fl).flatten from rfl]
  exact RetK.one _ (.slice (some ⟨b5, 0, none⟩) 4 4) rfl rfl (Ext.refl _) ⟨_, 4, rfl, Fsl.of_newB hf6 hw7 (by simp [fl])⟩

theorem specTimesN {w0 : World} {σ : Sg} (p : Option Addr) (c : Nat) (xs : List Nat) (hs : Sl σ 1 p (xs.map fl)) (q : Option Addr) (d : Nat) (ys : List Nat) (hq : Sl σ 1 q (ys.map fl)) (hx : xs.length = 4) (hy : ys.length = 4) :
    Fn Try.prog w0 98 [.slice p 4 c, .slice q 4 d] σ (RetFS w0 σ 1 ((timesM xs ys).map fl) 4 id) := by
  have h := specTimesM (w0 := w0) p c xs hs q d ys hq hx hy
  rw [hx, hy] at h
  exact h

theorem implTimesN {w0 : World} {σ : Sg} (p : Option Addr) (c : Nat) (xs : List Nat) (hs : Sl σ 1 p (xs.map fl)) (q : Option Addr) (d : Nat) (ys : List Nat) (hq : Sl σ 1 q (ys.map fl)) (hx : xs.length = 4) (hy : ys.length = 4) :
    Fn Try.prog w0 104 [.slice p 4 c, .slice q 4 d] σ (RetFS w0 σ 1 ((timesM xs ys).map fl) 4 id) := by
  have h := implTimesM (w0 := w0) p c xs hs q d ys hq hx hy
  rw [hx, hy] at h
  exact h

theorem implMat {w0 : World} {σ : Sg} (a : Int) (u v : Nat) :
    Fn Try.prog w0 105 [(.agg #[(.int .i64 a), (.float .f32 u), (.float .f32 v)])] σ (RetFS w0 σ 1 ((elM a u).map fl) 4 id) := by
  refine Fn.of_W 17 Try.func105 rfl Try.ntmps105 rfl ?_
  refine W.seq ?_
  refine W.region ?_
  refine L.cons (o_box (v := (.agg #[(.int .i64 a), (.float .f32 u), (.float .f32 v)])) rfl rfl [(.int .i64 a), (.float .f32 u), (.float .f32 v)] rfl) ?_
  rintro _ _ ⟨b1, hf2, hw3, rfl, rfl⟩
  have fz7 := Ext.none (Ext.refl _) hf2
  have hb6 : (sg σ b1 (98, [(.int .i64 a), (.float .f32 u), (.float .f32 v)])) b1 = some (98, [(.int .i64 a), (.float .f32 u), (.float .f32 v)]) := sg_eq _ _ _
  have hx5 : Ext σ (sg σ b1 (98, [(.int .i64 a), (.float .f32 u), (.float .f32 v)])) := (Ext.refl _).sg hf2
  have ehx5 := Ext.trans (Ext.refl _) hx5
  generalize hgs4 : sg σ b1 (98, [(.int .i64 a), (.float .f32 u), (.float .f32 v)]) = s4 at *
  clear hgs4
  refine L.v (o_assign (v := (.slice none 0 0)) rfl) ?_
  refine L.nil ?_
  refine W.seq ?_
  refine W.seq ?_
  refine W.region ?_
  refine L.v (o_fieldAddr (b := b1) (off := 0) (o := 0) (run_fieldAt (f := 0) (fld := { name := "Kind", type := 2, offset := 0, embedded := false, tag := "", pkgPath := "", byteOffset := 0 }) Try.underlying98 rfl Try.sizeOf2 (Nat.succ_ne_zero _)) rfl) ?_
  refine L.v (o_load (b := b1) (off := 0 + 0) (v := (.int .i64 a)) Try.isAgg2 rfl (Rd.of hb6 rfl) rfl) ?_
  refine L.nil ?_
  refine W.block ?_
  refine W.seq ?_
  refine W.region ?_
  refine L.v (o_ieql (a := a) (b := 0) rfl rfl rfl) ?_
  refine L.v (o_assign (v := (.bool (decide ((a : Int) = 0)))) rfl) ?_
  refine L.nil ?_
  refine W.cond (b := decide ((a : Int) = 0)) rfl (fun q8 => ?_) (fun q8 => ?_)
  ·
    have a9 : (a : Int) = 0 := of_decide_eq_true q8
    refine W.seq ?_
    refine W.region ?_
    refine L.v (o_fieldAddr (b := b1) (off := 0) (o := 1) (run_fieldAt (f := 1) (fld := { name := "Number", type := 24, offset := 1, embedded := false, tag := "", pkgPath := "", byteOffset := 8 }) Try.underlying98 rfl Try.sizeOf24 (Nat.succ_ne_zero _)) rfl) ?_
    refine L.v (o_load (b := b1) (off := 0 + 1) (v := (.float .f32 u)) Try.isAgg24 rfl (Rd.of hb6 rfl) rfl) ?_
    refine L.cons (o_buildSlice (info := Try.t24) (z := .float .f32 0) [(.float .f32 1065353216), (.float .f32 u), (.float .f32 0), (.float .f32 1065353216)] Try.underlying32 Try.type24 rfl rfl rfl rfl (by decide) rfl rfl (by simp [Value.oneCell'])) ?_
    rintro _ _ ⟨b10, hf11, hw12, rfl, rfl⟩
    refine L.v (o_assign (v := (.slice (some ⟨b10, 0, none⟩) 4 4)) rfl) ?_
    refine L.nil ?_
    refine W.ret ?_
    exact RetK.one _ (.slice (some ⟨b10, 0, none⟩) 4 4) rfl rfl (Ext.refl _) ⟨_, 4, rfl, by rw [elM_0 (of_decide_eq_true q8)]; exact Fsl.weaken (Fsl.of_newB (rows := ([1065353216, u, 0, 1065353216] : List Nat).map fl) hf11 hw12 (by simp [fl])) ehx5⟩
  ·
    have a13 : ¬ ((a : Int) = 0) := of_decide_eq_false q8
    refine W.seq ?_
    refine W.region ?_
    refine L.v (o_ieql (a := a) (b := 1) rfl rfl rfl) ?_
    refine L.v (o_assign (v := (.bool (decide ((a : Int) = 1)))) rfl) ?_
    refine L.nil ?_
    refine W.cond (b := decide ((a : Int) = 1)) rfl (fun q14 => ?_) (fun q14 => ?_)
    ·
      have a15 : (a : Int) = 1 := of_decide_eq_true q14
      refine W.seq ?_
      refine W.region ?_
      refine L.v (o_fieldAddr (b := b1) (off := 0) (o := 1) (run_fieldAt (f := 1) (fld := { name := "Number", type := 24, offset := 1, embedded := false, tag := "", pkgPath := "", byteOffset := 8 }) Try.underlying98 rfl Try.sizeOf24 (Nat.succ_ne_zero _)) rfl) ?_
      refine L.v (o_load (b := b1) (off := 0 + 1) (v := (.float .f32 u)) Try.isAgg24 rfl (Rd.of hb6 rfl) rfl) ?_
      refine L.v (o_farith (k := .f32) (a := 3212836864) (b := u) rfl rfl rfl) ?_
      refine L.cons (o_buildSlice (info := Try.t24) (z := .float .f32 0) [(.float .f32 1065353216), (.float .f32 0), (.float .f32 (fop .quo .f32 3212836864 u)), (.float .f32 1065353216)] Try.underlying32 Try.type24 rfl rfl rfl rfl (by decide) rfl rfl (by simp [Value.oneCell'])) ?_
      rintro _ _ ⟨b16, hf17, hw18, rfl, rfl⟩
      refine L.v (o_assign (v := (.slice (some ⟨b16, 0, none⟩) 4 4)) rfl) ?_
      refine L.nil ?_
      refine W.ret ?_
      exact RetK.one _ (.slice (some ⟨b16, 0, none⟩) 4 4) rfl rfl (Ext.refl _) ⟨_, 4, rfl, by rw [elM_1 (of_decide_eq_false q8) (of_decide_eq_true q14)]; exact Fsl.weaken (Fsl.of_newB (rows := ([1065353216, 0, fop .quo .f32 3212836864 u, 1065353216] : List Nat).map fl) hf17 hw18 (by simp [fl])) ehx5⟩
    ·
      have a19 : ¬ ((a : Int) = 1) := of_decide_eq_false q14
      refine W.skip ?_
      refine W.seq ?_
      refine W.region ?_
      refine L.cons (o_buildSlice (info := Try.t24) (z := .float .f32 0) [(.float .f32 1065353216), (.float .f32 0), (.float .f32 0), (.float .f32 1065353216)] Try.underlying32 Try.type24 rfl rfl rfl rfl (by decide) rfl rfl (by simp [Value.oneCell'])) ?_
      rintro _ _ ⟨b20, hf21, hw22, rfl, rfl⟩
      refine L.v (o_assign (v := (.slice (some ⟨b20, 0, none⟩) 4 4)) rfl) ?_
      refine L.nil ?_
      refine W.ret ?_
      exact RetK.one _ (.slice (some ⟨b20, 0, none⟩) 4 4) rfl rfl (Ext.refl _) ⟨_, 4, rfl, by rw [elM_2 (of_decide_eq_false q8) (of_decide_eq_false q14)]; exact Fsl.weaken (Fsl.of_newB (rows := ([1065353216, 0, 0, 1065353216] : List Nat).map fl) hf21 hw22 (by simp [fl])) ehx5⟩

theorem implMatrix {w0 : World} {σ : Sg} (p : Option Addr) (c : Nat) (xs : List (Int × Nat × Nat)) (hs : Sl σ 3 p (xs.map el)) (hn : xs.length ≤ 1048576) :
    Fn Try.prog w0 74 [(.slice p xs.length c)] σ (RetFS w0 σ 1 ((matTo xs xs.length).map fl) 4 id) := by
  refine Fn.of_W 19 Try.func74 rfl Try.ntmps74 rfl ?_
  refine W.seq ?_
  refine W.region ?_
  refine L.v (o_assign (v := (.slice none 0 0)) rfl) ?_
  refine L.nil ?_
  refine W.seq ?_
  refine W.region ?_
  refine L.cons (o_buildSlice (info := Try.t24) (z := .float .f32 0) [(.float .f32 1065353216), (.float .f32 0), (.float .f32 0), (.float .f32 1065353216)] Try.underlying32 Try.type24 rfl rfl rfl rfl (by decide) rfl rfl (by simp [Value.oneCell'])) ?_
  rintro _ _ ⟨b1, hf2, hw3, rfl, rfl⟩
  refine L.v (o_assign (v := (.slice (some ⟨b1, 0, none⟩) 4 4)) rfl) ?_
  refine L.nil ?_
  refine W.seq ?_
  refine W.seq ?_
  refine W.region ?_
  refine L.v (o_move (v := (.slice p xs.length c)) rfl) ?_
  refine L.v (o_len (p := p) (n := xs.length) (c := c) Try.underlying66 rfl) ?_
  refine L.v (o_move (v := (.int .i64 0)) rfl) ?_
  refine L.nil ?_
  refine W.block ?_
  have hfs0 : Fsl w0 σ 1 ((matTo xs 0).map fl) (some ⟨b1, 0, none⟩) (sg σ b1 (24, [(.float .f32 1065353216), (.float .f32 0), (.float .f32 0), (.float .f32 1065353216)])) := Fsl.of_newB (rows := (matTo xs 0).map fl) hf2 hw3 (by simp [fl, matTo])
  refine W.loop (fun nn tt ss => ∃ (i : Nat) (q : Option Addr) (d : Nat), nn = xs.length - i ∧ i ≤ xs.length ∧ Fsl w0 σ 1 ((matTo xs i).map fl) q ss ∧ FrOk tt [(3, (.slice q 4 d)), (7, (.slice p xs.length c)), (8, (.int .i64 (xs.length : Int))), (9, (.int .i64 (i : Int)))]) _ ⟨0, _, 4, rfl, by omega, hfs0, ⟨rfl, rfl, rfl, rfl, trivial⟩⟩ ?_
  rintro _ t1 s1 ⟨i, q, d, rfl, hi, hfs, f1⟩
  rw [← frame_ok f1]
  show W _ _ _ _ _ (upd (upd (upd (upd t1 3 (.slice q 4 d)) 7 (.slice p xs.length c)) 8 (.int .i64 (xs.length : Int))) 9 (.int .i64 (i : Int))) _
  have hs1 := Sl.ext hs hfs.ext
  refine W.seq ?_
  refine W.region ?_
  refine L.v (o_ilss (a := (i : Int)) (b := (xs.length : Int)) rfl rfl rfl) ?_
  refine L.nil ?_
  refine W.seq ?_
  refine W.cond (b := decide (((i : Int) : Int) < (xs.length : Int))) rfl (fun q4 => ?_) (fun q4 => ?_)
  ·
    have a5 : ((i : Int) : Int) < (xs.length : Int) := of_decide_eq_true q4
    refine W.skip ?_
    refine W.seq ?_
    refine W.block ?_
    refine W.seq ?_
    obtain ⟨b6, o7, rfl, _⟩ := hs1.elem i (by omega) (0, 0, 0)
    refine W.region ?_
    refine L.v (o_indexAddr (b := b6) (off := o7) (n := xs.length) (c := c) i Try.underlying66 Try.sizeOf98 rfl rfl (by omega)) ?_
    refine L.v (o_loads (b := b6) (off := o7 + i * 3) (vs := [(.int .i64 ((xs.getD i (0, 0, 0)).1)), (.float .f32 ((xs.getD i (0, 0, 0)).2.1)), (.float .f32 ((xs.getD i (0, 0, 0)).2.2))]) Try.isAgg98 Try.sizeOf98 rfl rfl (Sl.at (Sl.ext hs1 (Ext.refl s1)) i (by omega) (0, 0, 0))) ?_
    refine L.cons (o_alloc Try.zeroValue98 [(.int .i64 0), (.float .f32 0), (.float .f32 0)] rfl) ?_
    rintro _ _ ⟨b8, hf9, hw10, rfl, rfl⟩
    have fz14 := Ext.none (Ext.refl s1) hf9
    have hb13 : (sg s1 b8 (98, [(.int .i64 0), (.float .f32 0), (.float .f32 0)])) b8 = some (98, [(.int .i64 0), (.float .f32 0), (.float .f32 0)]) := sg_eq _ _ _
    have hx12 : Ext s1 (sg s1 b8 (98, [(.int .i64 0), (.float .f32 0), (.float .f32 0)])) := (Ext.refl _).sg hf9
    have hs15 := Sl.ext hfs.reads hx12
    have ehx12 := Ext.trans (Ext.refl s1) hx12
    generalize hgs11 : sg s1 b8 (98, [(.int .i64 0), (.float .f32 0), (.float .f32 0)]) = s11 at *
    clear hgs11
    refine L.cons0 (o_stores (b := b8) (off := 0) (vs := [(.int .i64 ((xs.getD i (0, 0, 0)).1)), (.float .f32 ((xs.getD i (0, 0, 0)).2.1)), (.float .f32 ((xs.getD i (0, 0, 0)).2.2))]) Try.sizeOf98 rfl rfl rfl (by simp [Value.oneCell']) hb13 (by show _ ≤ 3; decide) hw10) ?_
    rintro _ _ ⟨rfl, rfl⟩
    show L _ _ _ _ _ _ _ (sg s11 b8 (98, [(.int .i64 ((xs.getD i (0, 0, 0)).1)), (.float .f32 ((xs.getD i (0, 0, 0)).2.1)), (.float .f32 ((xs.getD i (0, 0, 0)).2.2))]))
    have e18 := Ext.sg (x := (98, [(.int .i64 ((xs.getD i (0, 0, 0)).1)), (.float .f32 ((xs.getD i (0, 0, 0)).2.1)), (.float .f32 ((xs.getD i (0, 0, 0)).2.2))])) ehx12 fz14
    generalize hgs17 : sg s11 b8 (98, [(.int .i64 ((xs.getD i (0, 0, 0)).1)), (.float .f32 ((xs.getD i (0, 0, 0)).2.1)), (.float .f32 ((xs.getD i (0, 0, 0)).2.2))]) = s17 at *
    have hb16 := congrFun hgs17 b8
    rw [sg_eq] at hb16
    replace hb16 : s17 b8 = some (98, [(.int .i64 ((xs.getD i (0, 0, 0)).1)), (.float .f32 ((xs.getD i (0, 0, 0)).2.1)), (.float .f32 ((xs.getD i (0, 0, 0)).2.2))]) := hb16.symm
    have hs19 := Sl.ext hfs.reads e18
    clear hgs17
    refine L.nil ?_
    refine W.region ?_
    refine L.v (o_loads (b := b8) (off := 0) (vs := [(.int .i64 ((xs.getD i (0, 0, 0)).1)), (.float .f32 ((xs.getD i (0, 0, 0)).2.1)), (.float .f32 ((xs.getD i (0, 0, 0)).2.2))]) Try.isAgg98 Try.sizeOf98 rfl rfl (Rds.of hb16 (by intro j v hj; simpa using hj))) ?_
    refine L.cons (op_call [(.agg #[(.int .i64 ((xs.getD i (0, 0, 0)).1)), (.float .f32 ((xs.getD i (0, 0, 0)).2.1)), (.float .f32 ((xs.getD i (0, 0, 0)).2.2))])] Try.call105 rfl (implMat ((xs.getD i (0, 0, 0)).1) ((xs.getD i (0, 0, 0)).2.1) ((xs.getD i (0, 0, 0)).2.2))) ?_
    rintro _ s22 ⟨p20, c21, rfl, fs23⟩
    have ap24 : Apart (4) (4) p20 q := by simpa using Fsl.apart fs23 hs19 (fl_ne _)
    have ne25 := Fsl.ne fs23 hb16
    have hs26 := Sl.ext hs19 fs23.ext
    have hb27 := fs23.ext _ _ hb16
    have ex28 := Ext.trans e18 fs23.ext
    have mu29 := Fsl.mut fs23 (4) (by simp)
    refine L.v (o_move (v := (.slice q 4 d)) rfl) ?_
    refine L.cons (op_call [(.slice p20 4 c21), (.slice q 4 d)] Try.call104 rfl (implTimesN p20 c21 ((elM ((xs.getD i (0, 0, 0)).1) ((xs.getD i (0, 0, 0)).2.1))) (Fsl.reads fs23) q d (matTo xs i) hs26 (elM_len _ _) (matTo_len _ _))) ?_
    rintro _ s32 ⟨p30, c31, rfl, fs33⟩
    have ap34 : Apart (4) (4) p30 q := by simpa using Fsl.apart fs33 hs26 (fl_ne _)
    have ne35 := Fsl.ne fs33 hb27
    have ap36 : Apart (4) (4) p30 p20 := by simpa using Fsl.apart fs33 (Fsl.reads fs23) (fl_ne _)
    have hs37 := Sl.ext hs26 fs33.ext
    have hb38 := fs33.ext _ _ hb27
    have hs39 := Sl.ext (Fsl.reads fs23) fs33.ext
    have mu40 := Mut.ext mu29 fs33.ext
    have ex41 := Ext.trans ex28 fs33.ext
    have mu42 := Fsl.mut fs33 (4) (by simp)
    refine L.v (o_assign (v := (.slice p30 4 c31)) rfl) ?_
    refine L.nil ?_
    refine W.region ?_
    refine L.v (o_iadd (a := (i : Int)) (b := 1) (c := ((i + 1 : Nat) : Int)) rfl rfl (by rw [IntWalk.i64_in _ (by omega)]; try omega)) ?_
    refine L.v (o_move (v := (.int .i64 (((i + 1 : Nat) : Int)))) rfl) ?_
    refine L.nil ?_
    exact ⟨_, (by omega), i + 1, p30, c31, rfl, by omega, by rw [matTo, elM_eta]; exact Fsl.weaken fs33 (Ext.trans hfs.ext ex28), ⟨rfl, rfl, rfl, rfl, trivial⟩⟩
  ·
    have a43 : ¬ (((i : Int) : Int) < (xs.length : Int)) := of_decide_eq_false q4
    refine W.exit ?_
    refine W.seq ?_
    refine W.region ?_
    refine L.v (o_move (v := (.slice q 4 d)) rfl) ?_
    refine L.v (o_assign (v := (.slice q 4 d)) rfl) ?_
    refine L.nil ?_
    refine W.ret ?_
    obtain rfl : i = xs.length := by omega
    exact RetK.one _ (.slice q 4 d) rfl rfl (Ext.refl _) ⟨_, _, rfl, hfs⟩

theorem specMatrix {w0 : World} {σ : Sg} (p : Option Addr) (c : Nat) (xs : List (Int × Nat × Nat)) (hs : Sl σ 3 p (xs.map el)) (hn : xs.length ≤ 1048576) :
    Fn Try.prog w0 68 [(.slice p xs.length c)] σ (RetFS w0 σ 1 ((matTo xs xs.length).map fl) 4 id) := by
  refine Fn.of_W 42 Try.func68 rfl Try.ntmps68 rfl ?_
  refine W.seq ?_
  refine W.region ?_
  refine L.v (o_assign (v := (.slice none 0 0)) rfl) ?_
  refine L.nil ?_
  refine W.seq ?_
  refine W.region ?_
  refine L.cons (o_buildSlice (info := Try.t24) (z := .float .f32 0) [(.float .f32 1065353216), (.float .f32 0), (.float .f32 0), (.float .f32 1065353216)] Try.underlying32 Try.type24 rfl rfl rfl rfl (by decide) rfl rfl (by simp [Value.oneCell'])) ?_
  rintro _ _ ⟨b1, hf2, hw3, rfl, rfl⟩
  refine L.v (o_assign (v := (.slice (some ⟨b1, 0, none⟩) 4 4)) rfl) ?_
  refine L.nil ?_
  refine W.seq ?_
  refine W.seq ?_
  refine W.region ?_
  refine L.v (o_move (v := (.slice p xs.length c)) rfl) ?_
  refine L.v (o_len (p := p) (n := xs.length) (c := c) Try.underlying66 rfl) ?_
  refine L.v (o_move (v := (.int .i64 0)) rfl) ?_
  refine L.nil ?_
  refine W.block ?_
  have hfs0 : Fsl w0 σ 1 ((matTo xs 0).map fl) (some ⟨b1, 0, none⟩) (sg σ b1 (24, [(.float .f32 1065353216), (.float .f32 0), (.float .f32 0), (.float .f32 1065353216)])) := Fsl.of_newB (rows := (matTo xs 0).map fl) hf2 hw3 (by simp [fl, matTo])
  refine W.loop (fun nn tt ss => ∃ (i : Nat) (q : Option Addr) (d : Nat), nn = xs.length - i ∧ i ≤ xs.length ∧ Fsl w0 σ 1 ((matTo xs i).map fl) q ss ∧ FrOk tt [(0, (.slice p xs.length c)), (3, (.slice q 4 d)), (8, (.int .i64 (xs.length : Int))), (9, (.int .i64 (i : Int)))]) _ ⟨0, _, 4, rfl, by omega, hfs0, ⟨rfl, rfl, rfl, rfl, trivial⟩⟩ ?_
  rintro _ t1 s1 ⟨i, q, d, rfl, hi, hfs, f1⟩
  rw [← frame_ok f1]
  show W _ _ _ _ _ (upd (upd (upd (upd t1 0 (.slice p xs.length c)) 3 (.slice q 4 d)) 8 (.int .i64 (xs.length : Int))) 9 (.int .i64 (i : Int))) _
  have hs1 := Sl.ext hs hfs.ext
  refine W.seq ?_
  refine W.region ?_
  refine L.v (o_ilss (a := (i : Int)) (b := (xs.length : Int)) rfl rfl rfl) ?_
  refine L.nil ?_
  refine W.seq ?_
  refine W.cond (b := decide (((i : Int) : Int) < (xs.length : Int))) rfl (fun q4 => ?_) (fun q4 => ?_)
  ·
    have a5 : ((i : Int) : Int) < (xs.length : Int) := of_decide_eq_true q4
    refine W.skip ?_
    refine W.seq ?_
    refine W.block ?_
    refine W.seq ?_
    refine W.region ?_
    refine L.v (o_move (v := (.int .i64 (i : Int))) rfl) ?_
    refine L.v (o_assign (v := (.int .i64 (i : Int))) rfl) ?_
    refine L.nil ?_
    refine W.seq ?_
    refine W.region ?_
    refine L.cons (o_buildSlice (info := Try.t24) (z := .float .f32 0) [(.float .f32 1065353216), (.float .f32 0), (.float .f32 0), (.float .f32 1065353216)] Try.underlying32 Try.type24 rfl rfl rfl rfl (by decide) rfl rfl (by simp [Value.oneCell'])) ?_
    rintro _ _ ⟨b6, hf7, hw8, rfl, rfl⟩
    have fz12 := Ext.none (Ext.refl s1) hf7
    have hb11 : (sg s1 b6 (24, [(.float .f32 1065353216), (.float .f32 0), (.float .f32 0), (.float .f32 1065353216)])) b6 = some (24, [(.float .f32 1065353216), (.float .f32 0), (.float .f32 0), (.float .f32 1065353216)]) := sg_eq _ _ _
    have hx10 : Ext s1 (sg s1 b6 (24, [(.float .f32 1065353216), (.float .f32 0), (.float .f32 0), (.float .f32 1065353216)])) := (Ext.refl _).sg hf7
    have hs13 := Sl.ext hfs.reads hx10
    have ehx10 := Ext.trans (Ext.refl s1) hx10
    generalize hgs9 : sg s1 b6 (24, [(.float .f32 1065353216), (.float .f32 0), (.float .f32 0), (.float .f32 1065353216)]) = s9 at *
    clear hgs9
    refine L.v (o_assign (v := (.slice (some ⟨b6, 0, none⟩) 4 4)) rfl) ?_
    refine L.nil ?_
    refine W.seq ?_
    refine W.seq ?_
    obtain ⟨b14, o15, rfl, _⟩ := hs1.elem i (by omega) (0, 0, 0)
    refine W.region ?_
    refine L.v (o_move (v := (.slice (some ⟨b14, o15, none⟩) xs.length c)) rfl) ?_
    refine L.v (o_move (v := (.int .i64 (i : Int))) rfl) ?_
    refine L.v (o_indexAddr (b := b14) (off := o15) (n := xs.length) (c := c) i Try.underlying66 Try.sizeOf98 rfl rfl (by omega)) ?_
    refine L.v (o_fieldAddr (b := b14) (off := o15 + i * 3) (o := 0) (run_fieldAt (f := 0) (fld := { name := "Kind", type := 2, offset := 0, embedded := false, tag := "", pkgPath := "", byteOffset := 0 }) Try.underlying98 rfl Try.sizeOf2 (Nat.succ_ne_zero _)) rfl) ?_
    refine L.v (o_load (b := b14) (off := o15 + i * 3 + 0) (v := (.int .i64 ((xs.getD i (0, 0, 0)).1))) Try.isAgg2 rfl (Sl.at (Sl.ext hs1 ehx10) i (by omega) (0, 0, 0) 0 _ rfl) rfl) ?_
    refine L.nil ?_
    refine W.block ?_
    refine W.seq ?_
    refine W.region ?_
    refine L.v (o_ieql (a := (xs.getD i (0, 0, 0)).1) (b := 0) rfl rfl rfl) ?_
    refine L.v (o_assign (v := (.bool (decide (((xs.getD i (0, 0, 0)).1 : Int) = 0)))) rfl) ?_
    refine L.nil ?_
    refine W.cond (b := decide (((xs.getD i (0, 0, 0)).1 : Int) = 0)) rfl (fun q16 => ?_) (fun q16 => ?_)
    ·
      have a17 : ((xs.getD i (0, 0, 0)).1 : Int) = 0 := of_decide_eq_true q16
      refine W.region ?_
      refine L.v (o_move (v := (.slice (some ⟨b6, 0, none⟩) 4 4)) rfl) ?_
      refine L.v (o_move (v := (.slice (some ⟨b14, o15, none⟩) xs.length c)) rfl) ?_
      refine L.v (o_move (v := (.int .i64 (i : Int))) rfl) ?_
      refine L.v (o_indexAddr (b := b14) (off := o15) (n := xs.length) (c := c) i Try.underlying66 Try.sizeOf98 rfl rfl (by omega)) ?_
      refine L.v (o_fieldAddr (b := b14) (off := o15 + i * 3) (o := 1) (run_fieldAt (f := 1) (fld := { name := "Number", type := 24, offset := 1, embedded := false, tag := "", pkgPath := "", byteOffset := 8 }) Try.underlying98 rfl Try.sizeOf24 (Nat.succ_ne_zero _)) rfl) ?_
      refine L.v (o_load (b := b14) (off := o15 + i * 3 + 1) (v := (.float .f32 ((xs.getD i (0, 0, 0)).2.1))) Try.isAgg24 rfl (Sl.at (Sl.ext hs1 ehx10) i (by omega) (0, 0, 0) 1 _ rfl) rfl) ?_
      refine L.v (o_indexAddr (b := b6) (off := 0) (n := 4) (c := 4) 1 Try.underlying32 Try.sizeOf24 rfl rfl (by omega)) ?_
      refine L.cons0 (o_store (b := b6) (off := 0 + 1 * 1) (v := (.float .f32 ((xs.getD i (0, 0, 0)).2.1))) Try.sizeOf24 rfl rfl rfl hb11 (by show _ < 4; decide) hw8) ?_
      rintro _ _ ⟨rfl, rfl⟩
      show L _ _ _ _ _ _ _ (sg s9 b6 (24, [(.float .f32 1065353216), (.float .f32 ((xs.getD i (0, 0, 0)).2.1)), (.float .f32 0), (.float .f32 1065353216)]))
      have e20 := Ext.sg (x := (24, [(.float .f32 1065353216), (.float .f32 ((xs.getD i (0, 0, 0)).2.1)), (.float .f32 0), (.float .f32 1065353216)])) ehx10 fz12
      generalize hgs19 : sg s9 b6 (24, [(.float .f32 1065353216), (.float .f32 ((xs.getD i (0, 0, 0)).2.1)), (.float .f32 0), (.float .f32 1065353216)]) = s19 at *
      have hb18 := congrFun hgs19 b6
      rw [sg_eq] at hb18
      replace hb18 : s19 b6 = some (24, [(.float .f32 1065353216), (.float .f32 ((xs.getD i (0, 0, 0)).2.1)), (.float .f32 0), (.float .f32 1065353216)]) := hb18.symm
      have hs21 := Sl.ext hfs.reads e20
      clear hgs19
      refine L.nil ?_
      have hm1 : Sl s19 1 (some ⟨b6, 0, none⟩) (([1065353216, (xs.getD i (0, 0, 0)).2.1, 0, 1065353216] : List Nat).map fl) := Sl.of (e := 24) (f := fl) hb18 (by simp [fl])
      refine W.region ?_
      refine L.v (o_move (v := (.slice (some ⟨b6, 0, none⟩) 4 4)) rfl) ?_
      refine L.v (o_move (v := (.slice q 4 d)) rfl) ?_
      refine L.cons (op_call [(.slice (some ⟨b6, 0, none⟩) 4 4), (.slice q 4 d)] Try.call98 rfl (specTimesN (some ⟨b6, 0, none⟩) 4 ([1065353216, (xs.getD i (0, 0, 0)).2.1, 0, 1065353216]) hm1 q d (matTo xs i) hs21 rfl (matTo_len _ _))) ?_
      rintro _ s24 ⟨p22, c23, rfl, fs25⟩
      have ap26 : Apart (4) (4) p22 q := by simpa using Fsl.apart fs25 hs21 (fl_ne _)
      have ap27 : Apart (4) (4) p22 (some ⟨b6, 0, none⟩) := by simpa using Fsl.apart fs25 hm1 (fl_ne _)
      have hs28 := Sl.ext hs21 fs25.ext
      have hs29 := Sl.ext hm1 fs25.ext
      have ex30 := Ext.trans e20 fs25.ext
      have mu31 := Fsl.mut fs25 (4) (by simp)
      refine L.v (o_assign (v := (.slice p22 4 c23)) rfl) ?_
      refine L.nil ?_
      refine W.region ?_
      refine L.v (o_iadd (a := (i : Int)) (b := 1) (c := ((i + 1 : Nat) : Int)) rfl rfl (by rw [IntWalk.i64_in _ (by omega)]; try omega)) ?_
      refine L.v (o_move (v := (.int .i64 (((i + 1 : Nat) : Int)))) rfl) ?_
      refine L.nil ?_
      exact ⟨_, (by omega), i + 1, p22, c23, rfl, by omega, by rw [matTo, elM_0 (of_decide_eq_true q16)]; exact Fsl.weaken fs25 (Ext.trans hfs.ext e20), ⟨rfl, rfl, rfl, rfl, trivial⟩⟩
    ·
      have a32 : ¬ (((xs.getD i (0, 0, 0)).1 : Int) = 0) := of_decide_eq_false q16
      refine W.seq ?_
      refine W.region ?_
      refine L.v (o_ieql (a := (xs.getD i (0, 0, 0)).1) (b := 1) rfl rfl rfl) ?_
      refine L.v (o_assign (v := (.bool (decide (((xs.getD i (0, 0, 0)).1 : Int) = 1)))) rfl) ?_
      refine L.nil ?_
      refine W.cond (b := decide (((xs.getD i (0, 0, 0)).1 : Int) = 1)) rfl (fun q33 => ?_) (fun q33 => ?_)
      ·
        have a34 : ((xs.getD i (0, 0, 0)).1 : Int) = 1 := of_decide_eq_true q33
        refine W.region ?_
        refine L.v (o_move (v := (.slice (some ⟨b6, 0, none⟩) 4 4)) rfl) ?_
        refine L.v (o_move (v := (.slice (some ⟨b14, o15, none⟩) xs.length c)) rfl) ?_
        refine L.v (o_move (v := (.int .i64 (i : Int))) rfl) ?_
        refine L.v (o_indexAddr (b := b14) (off := o15) (n := xs.length) (c := c) i Try.underlying66 Try.sizeOf98 rfl rfl (by omega)) ?_
        refine L.v (o_fieldAddr (b := b14) (off := o15 + i * 3) (o := 1) (run_fieldAt (f := 1) (fld := { name := "Number", type := 24, offset := 1, embedded := false, tag := "", pkgPath := "", byteOffset := 8 }) Try.underlying98 rfl Try.sizeOf24 (Nat.succ_ne_zero _)) rfl) ?_
        refine L.v (o_load (b := b14) (off := o15 + i * 3 + 1) (v := (.float .f32 ((xs.getD i (0, 0, 0)).2.1))) Try.isAgg24 rfl (Sl.at (Sl.ext hs1 ehx10) i (by omega) (0, 0, 0) 1 _ rfl) rfl) ?_
        refine L.v (o_farith (k := .f32) (a := 3212836864) (b := (xs.getD i (0, 0, 0)).2.1) rfl rfl rfl) ?_
        refine L.v (o_indexAddr (b := b6) (off := 0) (n := 4) (c := 4) 2 Try.underlying32 Try.sizeOf24 rfl rfl (by omega)) ?_
        refine L.cons0 (o_store (b := b6) (off := 0 + 2 * 1) (v := (.float .f32 (fop .quo .f32 3212836864 ((xs.getD i (0, 0, 0)).2.1)))) Try.sizeOf24 rfl rfl rfl hb11 (by show _ < 4; decide) hw8) ?_
        rintro _ _ ⟨rfl, rfl⟩
        show L _ _ _ _ _ _ _ (sg s9 b6 (24, [(.float .f32 1065353216), (.float .f32 0), (.float .f32 (fop .quo .f32 3212836864 ((xs.getD i (0, 0, 0)).2.1))), (.float .f32 1065353216)]))
        have e37 := Ext.sg (x := (24, [(.float .f32 1065353216), (.float .f32 0), (.float .f32 (fop .quo .f32 3212836864 ((xs.getD i (0, 0, 0)).2.1))), (.float .f32 1065353216)])) ehx10 fz12
        generalize hgs36 : sg s9 b6 (24, [(.float .f32 1065353216), (.float .f32 0), (.float .f32 (fop .quo .f32 3212836864 ((xs.getD i (0, 0, 0)).2.1))), (.float .f32 1065353216)]) = s36 at *
        have hb35 := congrFun hgs36 b6
        rw [sg_eq] at hb35
        replace hb35 : s36 b6 = some (24, [(.float .f32 1065353216), (.float .f32 0), (.float .f32 (fop .quo .f32 3212836864 ((xs.getD i (0, 0, 0)).2.1))), (.float .f32 1065353216)]) := hb35.symm
        have hs38 := Sl.ext hfs.reads e37
        clear hgs36
        refine L.nil ?_
        have hm1 : Sl s36 1 (some ⟨b6, 0, none⟩) (([1065353216, 0, fop .quo .f32 3212836864 ((xs.getD i (0, 0, 0)).2.1), 1065353216] : List Nat).map fl) := Sl.of (e := 24) (f := fl) hb35 (by simp [fl])
        refine W.region ?_
        refine L.v (o_move (v := (.slice (some ⟨b6, 0, none⟩) 4 4)) rfl) ?_
        refine L.v (o_move (v := (.slice q 4 d)) rfl) ?_
        refine L.cons (op_call [(.slice (some ⟨b6, 0, none⟩) 4 4), (.slice q 4 d)] Try.call98 rfl (specTimesN (some ⟨b6, 0, none⟩) 4 ([1065353216, 0, fop .quo .f32 3212836864 ((xs.getD i (0, 0, 0)).2.1), 1065353216]) hm1 q d (matTo xs i) hs38 rfl (matTo_len _ _))) ?_
        rintro _ s41 ⟨p39, c40, rfl, fs42⟩
        have ap43 : Apart (4) (4) p39 q := by simpa using Fsl.apart fs42 hs38 (fl_ne _)
        have ap44 : Apart (4) (4) p39 (some ⟨b6, 0, none⟩) := by simpa using Fsl.apart fs42 hm1 (fl_ne _)
        have hs45 := Sl.ext hs38 fs42.ext
        have hs46 := Sl.ext hm1 fs42.ext
        have ex47 := Ext.trans e37 fs42.ext
        have mu48 := Fsl.mut fs42 (4) (by simp)
        refine L.v (o_assign (v := (.slice p39 4 c40)) rfl) ?_
        refine L.nil ?_
        refine W.region ?_
        refine L.v (o_iadd (a := (i : Int)) (b := 1) (c := ((i + 1 : Nat) : Int)) rfl rfl (by rw [IntWalk.i64_in _ (by omega)]; try omega)) ?_
        refine L.v (o_move (v := (.int .i64 (((i + 1 : Nat) : Int)))) rfl) ?_
        refine L.nil ?_
        exact ⟨_, (by omega), i + 1, p39, c40, rfl, by omega, by rw [matTo, elM_1 (of_decide_eq_false q16) (of_decide_eq_true q33)]; exact Fsl.weaken fs42 (Ext.trans hfs.ext e37), ⟨rfl, rfl, rfl, rfl, trivial⟩⟩
      ·
        have a49 : ¬ (((xs.getD i (0, 0, 0)).1 : Int) = 1) := of_decide_eq_false q33
        refine W.skip ?_
        have hm1 : Sl s9 1 (some ⟨b6, 0, none⟩) (([1065353216, 0, 0, 1065353216] : List Nat).map fl) := Sl.of (e := 24) (f := fl) hb11 (by simp [fl])
        refine W.region ?_
        refine L.v (o_move (v := (.slice (some ⟨b6, 0, none⟩) 4 4)) rfl) ?_
        refine L.v (o_move (v := (.slice q 4 d)) rfl) ?_
        refine L.cons (op_call [(.slice (some ⟨b6, 0, none⟩) 4 4), (.slice q 4 d)] Try.call98 rfl (specTimesN (some ⟨b6, 0, none⟩) 4 ([1065353216, 0, 0, 1065353216]) hm1 q d (matTo xs i) hs13 rfl (matTo_len _ _))) ?_
        rintro _ s52 ⟨p50, c51, rfl, fs53⟩
        have ap54 : Apart (4) (4) p50 q := by simpa using Fsl.apart fs53 hs13 (fl_ne _)
        have ap55 : Apart (4) (4) p50 (some ⟨b6, 0, none⟩) := by simpa using Fsl.apart fs53 hm1 (fl_ne _)
        have hs56 := Sl.ext hs13 fs53.ext
        have hs57 := Sl.ext hm1 fs53.ext
        have ex58 := Ext.trans ehx10 fs53.ext
        have mu59 := Fsl.mut fs53 (4) (by simp)
        refine L.v (o_assign (v := (.slice p50 4 c51)) rfl) ?_
        refine L.nil ?_
        refine W.region ?_
        refine L.v (o_iadd (a := (i : Int)) (b := 1) (c := ((i + 1 : Nat) : Int)) rfl rfl (by rw [IntWalk.i64_in _ (by omega)]; try omega)) ?_
        refine L.v (o_move (v := (.int .i64 (((i + 1 : Nat) : Int)))) rfl) ?_
        refine L.nil ?_
        exact ⟨_, (by omega), i + 1, p50, c51, rfl, by omega, by rw [matTo, elM_2 (of_decide_eq_false q16) (of_decide_eq_false q33)]; exact Fsl.weaken fs53 (Ext.trans hfs.ext ehx10), ⟨rfl, rfl, rfl, rfl, trivial⟩⟩
  ·
    have a60 : ¬ (((i : Int) : Int) < (xs.length : Int)) := of_decide_eq_false q4
    refine W.exit ?_
    refine W.seq ?_
    refine W.region ?_
    refine L.v (o_move (v := (.slice q 4 d)) rfl) ?_
    refine L.v (o_assign (v := (.slice q 4 d)) rfl) ?_
    refine L.nil ?_
    refine W.ret ?_
    obtain rfl : i = xs.length := by omega
    exact RetK.one _ (.slice q 4 d) rfl rfl (Ext.refl _) ⟨_, _, rfl, hfs⟩

end Go.Proofs.Ytnonlibekcacgaa.En
