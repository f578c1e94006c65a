/- The laws' own helpers over lists of whole numbers. -/
import Derived.Test.YtpgmpjejfpmnoaaLib
import Derived.Test.YtpgmpjejfpmnoaaRows
namespace Go.Proofs.Ytpgmpjejfpmnoaa.En
open Go
set_option linter.unusedVariables false
def il (n : Int) : List Value := [.int .i64 n]
def markI (k : Int) (i : Nat) : Value := .int .i64 (k + (i : Int))
def marksI (k : Int) (n : Nat) : List (List Value) := (List.range n).map fun (j : Nat) => il (k + (j : Int))
theorem marksI_get {k : Int} {n i : Nat} (h : i < n) : (marksI k n)[i]? = some [markI k i] := by simp [marksI, h, il, markI]
theorem Sl.marksI {s : Sg} {k : Int} {n i : Nat} {b off : Nat} (h : Sl s 1 (some ⟨b, off, .none⟩) (En.marksI k n)) (hi : i < n) : Rd s b (off + i * 1) (.int .i64 (k + (i : Int))) := by
  obtain ⟨b', off', hp, hr⟩ := h.get (marksI_get hi)
  cases hp
  exact hr.one
def sc (b : Nat) : List Value := [.slice (some ⟨b, 0, .none⟩) 2 2]
def pr (rows : List (Int × Int)) (i : Nat) : List Int := [(rows.getD i (0, 0)).1, (rows.getD i (0, 0)).2]
/-- the inner blocks, one a row -/
def InB (s : Sg) (bs : List Nat) (rows : List (Int × Int)) : Prop := ∀ i, i < rows.length → s (bs.getD i 0) = some (2, (pr rows i).map (Value.int .i64))
theorem flat_il (xs : List Int) : (xs.map il).flatten = xs.map (Value.int .i64) := by
  induction xs with
  | nil => rfl
  | cons x xs ih => simp [il]; exact ih
theorem InB.pair {s : Sg} {bs : List Nat} {rows : List (Int × Int)} (h : InB s bs rows) (i : Nat) (hi : i < rows.length) : Sl s 1 (some ⟨bs.getD i 0, 0, .none⟩) ((pr rows i).map il) :=
  Sl.of (e := 2) (f := il) (by rw [h i hi, flat_il]) (by simp [il])
theorem eqI64 {w0 : World} {σ : Sg} (p q : Option Addr) (c d : Nat) (xs : List Int) (hs : Sl σ 1 p (xs.map il)) (hq : Sl σ 1 q (xs.map il)) (hn : xs.length ≤ 1048576) :
    FnV Try.prog w0 47 [(.slice p xs.length c), (.slice q xs.length d)] σ (.bool true) := by
  unfold FnV
  refine Fn.of_W 26 Try.func47 rfl Try.ntmps47 rfl ?_
  refine W.seq ?_
  refine W.region ?_
  refine L.v (o_assign (v := (.bool false)) rfl) ?_
  refine L.nil ?_
  refine W.seq ?_
  refine W.seq ?_
  refine W.region ?_
  refine L.v (o_move (v := (.slice p xs.length c)) rfl) ?_
  refine L.v (o_len (p := p) (n := xs.length) (c := c) Try.underlying62 rfl) ?_
  refine L.v (o_move (v := (.slice q xs.length d)) rfl) ?_
  refine L.v (o_len (p := q) (n := xs.length) (c := d) Try.underlying62 rfl) ?_
  refine L.v (o_ineq (a := (xs.length : Int)) (b := (xs.length : Int)) (c := false) rfl rfl (by simp)) ?_
  refine L.nil ?_
  refine W.condF (b := false) rfl rfl ?_
  refine W.skip ?_
  refine W.seq ?_
  refine W.seq ?_
  refine W.region ?_
  refine L.v (o_assign (v := (.int .i64 0)) rfl) ?_
  refine L.nil ?_
  refine W.block ?_
  refine W.loop (fun nn tt ss => ∃ (i : Nat), nn = xs.length - i ∧ (i ≤ xs.length) ∧ FrOk tt [(0, (.slice p xs.length c)), (1, (.slice q xs.length d)), (5, (.int .i64 (i : Int)))] ∧ σ = ss) _ ⟨0, rfl, (by omega), ⟨rfl, rfl, rfl, trivial⟩, rfl⟩ ?_
  rintro _ t1 _ ⟨i, rfl, hi, f2, rfl⟩
  rw [← frame_ok f2]
  show W _ _ _ _ _ (upd (upd (upd t1 0 (.slice p xs.length c)) 1 (.slice q xs.length d)) 5 (.int .i64 (i : Int))) _
  refine W.seq ?_
  refine W.seq ?_
  refine W.region ?_
  refine L.v (o_move (v := (.int .i64 (i : Int))) rfl) ?_
  refine L.v (o_move (v := (.slice p xs.length c)) rfl) ?_
  refine L.v (o_len (p := p) (n := xs.length) (c := c) Try.underlying62 rfl) ?_
  refine L.v (o_ilss (a := (i : Int)) (b := (xs.length : Int)) rfl rfl rfl) ?_
  refine L.nil ?_
  refine W.cond (b := decide (((i : Int) : Int) < (xs.length : Int))) rfl (fun q3 => ?_) (fun q3 => ?_)
  ·
    have a4 : ((i : Int) : Int) < (xs.length : Int) := of_decide_eq_true q3
    refine W.skip ?_
    refine W.seq ?_
    refine W.block ?_
    refine W.seq ?_
    obtain ⟨b5, o6, rfl, _⟩ := hs.elem i (by omega) (0 : Int)
    obtain ⟨b7, o8, rfl, _⟩ := hq.elem i (by omega) (0 : Int)
    refine W.draw [true, true, true, true, true, true, true, true, true] (fun s => s = σ) (by kernel_rfl) (by kernel_rfl) ?_
    refine DL.v (fun _ hD => by cases hD; exact o_move (v := (.slice (some ⟨b5, o6, none⟩) xs.length c)) rfl) ?_
    refine DL.v (fun _ hD => by cases hD; exact o_move (v := (.int .i64 (i : Int))) rfl) ?_
    refine DL.v (fun _ hD => by cases hD; exact o_indexAddr (b := b5) (off := o6) (n := xs.length) (c := c) i Try.underlying62 Try.sizeOf2 rfl rfl (by omega)) ?_
    refine DL.v (fun _ hD => by cases hD; exact o_load (b := b5) (off := o6 + i * 1) (v := (.int .i64 (xs.getD i 0))) Try.isAgg2 rfl (Rds.fst (Sl.at hs i (by omega) (0 : Int))) rfl) ?_
    refine DL.v (fun _ hD => by cases hD; exact o_move (v := (.slice (some ⟨b7, o8, none⟩) xs.length d)) rfl) ?_
    refine DL.v (fun _ hD => by cases hD; exact o_move (v := (.int .i64 (i : Int))) rfl) ?_
    refine DL.v (fun _ hD => by cases hD; exact o_indexAddr (b := b7) (off := o8) (n := xs.length) (c := d) i Try.underlying62 Try.sizeOf2 rfl rfl (by omega)) ?_
    refine DL.v (fun _ hD => by cases hD; exact o_load (b := b7) (off := o8 + i * 1) (v := (.int .i64 (xs.getD i 0))) Try.isAgg2 rfl (Rds.fst (Sl.at hq i (by omega) (0 : Int))) rfl) ?_
    refine DL.v (fun _ hD => by cases hD; exact o_ineq (a := xs.getD i 0) (b := xs.getD i 0) (c := false) rfl rfl (by simp)) ?_
    refine DL.nil rfl ?_
    refine W.condF (b := false) rfl rfl ?_
    refine W.skip ?_
    refine W.region ?_
    refine L.v (o_move (v := (.int .i64 (i : Int))) rfl) ?_
    refine L.v (o_iadd (a := (i : Int)) (b := 1) (c := ((i + 1 : Nat) : Int)) rfl rfl (by rw [IntWalk.i64_in _ (by omega)]; try omega)) ?_
    refine L.v (o_assign (v := (.int .i64 (((i + 1 : Nat) : Int)))) rfl) ?_
    refine L.nil ?_
    exact ⟨_, (by omega), i + 1, rfl, (by omega), ⟨rfl, rfl, rfl, trivial⟩, rfl⟩
  ·
    have a9 : ¬ (((i : Int) : Int) < (xs.length : Int)) := of_decide_eq_false q3
    refine W.exit ?_
    refine W.seq ?_
    refine W.region ?_
    refine L.v (o_assign (v := (.bool true)) rfl) ?_
    refine L.nil ?_
    refine W.ret ?_
    exact RetK.one σ (.bool true) rfl rfl (Ext.refl _) ⟨by first | rfl | (exfalso; omega) | (exact absurd rfl (by assumption)), rfl⟩

theorem markIB {w0 : World} {σ : Sg} (b e n c : Nat) (cs : List Value) (k : Int) (hb : σ b = some (e, cs)) (hw : w0.heap.size ≤ b) (hn : n ≤ cs.length) (hm : n ≤ 1048576) (hk : 0 ≤ k ∧ k ≤ 1099511627776) :
    Fn Try.prog w0 48 [(.slice (some ⟨b, 0, none⟩) n c), (.int .i64 k)] σ (fun u s => u = .int .i64 (k + n) ∧ s = sg σ b (e, mkc (markI k) cs n)) := by
  refine Fn.of_W 19 Try.func48 rfl Try.ntmps48 rfl ?_
  refine W.seq ?_
  refine W.region ?_
  refine L.v (o_assign (v := (.int .i64 0)) rfl) ?_
  refine L.nil ?_
  refine W.seq ?_
  refine W.seq ?_
  refine W.region ?_
  refine L.v (o_assign (v := (.int .i64 0)) rfl) ?_
  refine L.nil ?_
  refine W.block ?_
  refine W.loop (fun nn tt ss => ∃ (i : Nat), nn = n - i ∧ (i ≤ n) ∧ FrOk tt [(0, (.slice (some ⟨b, 0, none⟩) n c)), (1, (.int .i64 (k + (i : Int)))), (5, (.int .i64 (i : Int)))] ∧ sg σ b (e, mkc (markI k) cs i) = ss) _ ⟨0, rfl, (by omega), ⟨rfl, (by show Value.int .i64 k = _; simp), rfl, trivial⟩, sg_same hb⟩ ?_
  rintro _ t1 _ ⟨i, rfl, hi, f2, rfl⟩
  rw [← frame_ok f2]
  show W _ _ _ _ _ (upd (upd (upd t1 0 (.slice (some ⟨b, 0, none⟩) n c)) 1 (.int .i64 (k + (i : Int)))) 5 (.int .i64 (i : Int))) _
  refine W.seq ?_
  refine W.seq ?_
  refine W.region ?_
  refine L.v (o_move (v := (.int .i64 (i : Int))) rfl) ?_
  refine L.v (o_move (v := (.slice (some ⟨b, 0, none⟩) n c)) rfl) ?_
  refine L.v (o_len (p := (some ⟨b, 0, none⟩)) (n := n) (c := c) Try.underlying62 rfl) ?_
  refine L.v (o_ilss (a := (i : Int)) (b := (n : Int)) rfl rfl rfl) ?_
  refine L.nil ?_
  refine W.cond (b := decide (((i : Int) : Int) < (n : Int))) rfl (fun q3 => ?_) (fun q3 => ?_)
  ·
    have a4 : ((i : Int) : Int) < (n : Int) := of_decide_eq_true q3
    refine W.skip ?_
    refine W.seq ?_
    refine W.block ?_
    refine W.seq ?_
    refine W.region ?_
    refine L.v (o_move (v := (.slice (some ⟨b, 0, none⟩) n c)) rfl) ?_
    refine L.v (o_move (v := (.int .i64 (i : Int))) rfl) ?_
    refine L.v (o_move (v := (.int .i64 (k + (i : Int)))) rfl) ?_
    refine L.v (o_indexAddr (b := b) (off := 0) (n := n) (c := c) i Try.underlying62 Try.sizeOf2 rfl rfl (by omega)) ?_
    refine L.cons0 (o_store (b := b) (off := 0 + i * 1) (v := (.int .i64 (k + (i : Int)))) Try.sizeOf2 rfl rfl rfl (sg_eq _ _ _) (by rw [mkc_length]; omega) hw) ?_
    rintro _ _ ⟨rfl, rfl⟩
    rw [sg_sg, show (mkc (markI k) cs i).set (0 + i * 1) (.int .i64 (k + (i : Int))) = mkc (markI k) cs (i + 1) by rw [show 0 + i * 1 = i by omega]; rfl]
    refine L.nil ?_
    refine W.region ?_
    refine L.v (o_move (v := (.int .i64 (k + (i : Int)))) rfl) ?_
    refine L.v (o_iadd (a := k + (i : Int)) (b := 1) (c := k + ((i + 1 : Nat) : Int)) rfl rfl (by rw [IntWalk.i64_in _ (by omega)]; try (push_cast; omega))) ?_
    refine L.v (o_assign (v := (.int .i64 (k + ((i + 1 : Nat) : Int)))) rfl) ?_
    refine L.nil ?_
    refine W.region ?_
    refine L.v (o_move (v := (.int .i64 (i : Int))) rfl) ?_
    refine L.v (o_iadd (a := (i : Int)) (b := 1) (c := ((i + 1 : Nat) : Int)) rfl rfl (by rw [IntWalk.i64_in _ (by omega)]; try (push_cast; omega))) ?_
    refine L.v (o_assign (v := (.int .i64 (((i + 1 : Nat) : Int)))) rfl) ?_
    refine L.nil ?_
    exact ⟨_, (by omega), i + 1, rfl, (by omega), ⟨rfl, rfl, rfl, trivial⟩, rfl⟩
  ·
    have a5 : ¬ (((i : Int) : Int) < (n : Int)) := of_decide_eq_false q3
    refine W.exit ?_
    refine W.seq ?_
    refine W.region ?_
    refine L.v (o_move (v := (.int .i64 (k + (i : Int)))) rfl) ?_
    refine L.v (o_assign (v := (.int .i64 (k + (i : Int)))) rfl) ?_
    refine L.nil ?_
    refine W.ret ?_
    obtain rfl : i = n := by omega
    exact RetK.one _ (.int .i64 (k + (i : Int))) rfl rfl (Ext.refl _) ⟨rfl, rfl⟩

theorem heldI64 {w0 : World} {σ : Sg} (p : Option Addr) (n c : Nat) (k : Int) (hs : Sl σ 1 p (marksI k n)) (hm : n ≤ 1048576) (hk : 0 ≤ k ∧ k ≤ 1099511627776) :
    FnV Try.prog w0 49 [(.slice p n c), (.int .i64 k)] σ (.int .i64 (k + n)) := by
  unfold FnV
  refine Fn.of_W 21 Try.func49 rfl Try.ntmps49 rfl ?_
  refine W.seq ?_
  refine W.region ?_
  refine L.v (o_assign (v := (.int .i64 0)) rfl) ?_
  refine L.nil ?_
  refine W.seq ?_
  refine W.seq ?_
  refine W.region ?_
  refine L.v (o_assign (v := (.int .i64 0)) rfl) ?_
  refine L.nil ?_
  refine W.block ?_
  refine W.loop (fun nn tt ss => ∃ (i : Nat), nn = n - i ∧ (i ≤ n) ∧ FrOk tt [(0, (.slice p n c)), (1, (.int .i64 (k + (i : Int)))), (5, (.int .i64 (i : Int)))] ∧ σ = ss) _ ⟨0, rfl, (by omega), ⟨rfl, (by show Value.int .i64 k = _; simp), rfl, trivial⟩, rfl⟩ ?_
  rintro _ t1 _ ⟨i, rfl, hi, f2, rfl⟩
  rw [← frame_ok f2]
  show W _ _ _ _ _ (upd (upd (upd t1 0 (.slice p n c)) 1 (.int .i64 (k + (i : Int)))) 5 (.int .i64 (i : Int))) _
  refine W.seq ?_
  refine W.seq ?_
  refine W.region ?_
  refine L.v (o_move (v := (.int .i64 (i : Int))) rfl) ?_
  refine L.v (o_move (v := (.slice p n c)) rfl) ?_
  refine L.v (o_len (p := p) (n := n) (c := c) Try.underlying62 rfl) ?_
  refine L.v (o_ilss (a := (i : Int)) (b := (n : Int)) rfl rfl rfl) ?_
  refine L.nil ?_
  refine W.cond (b := decide (((i : Int) : Int) < (n : Int))) rfl (fun q3 => ?_) (fun q3 => ?_)
  ·
    have a4 : ((i : Int) : Int) < (n : Int) := of_decide_eq_true q3
    refine W.skip ?_
    refine W.seq ?_
    refine W.block ?_
    refine W.seq ?_
    refine W.seq ?_
    obtain ⟨b5, o6, rfl, _⟩ := hs.get (marksI_get (k := k) (n := n) (i := i) (by omega))
    refine W.region ?_
    refine L.v (o_move (v := (.slice (some ⟨b5, o6, none⟩) n c)) rfl) ?_
    refine L.v (o_move (v := (.int .i64 (i : Int))) rfl) ?_
    refine L.v (o_indexAddr (b := b5) (off := o6) (n := n) (c := c) i Try.underlying62 Try.sizeOf2 rfl rfl (by omega)) ?_
    refine L.v (o_load (b := b5) (off := o6 + i * 1) (v := (.int .i64 (k + (i : Int)))) Try.isAgg2 rfl (Sl.marksI hs (by omega)) rfl) ?_
    refine L.v (o_move (v := (.int .i64 (k + (i : Int)))) rfl) ?_
    refine L.v (o_ineq (a := k + (i : Int)) (b := k + (i : Int)) (c := false) rfl rfl (by simp)) ?_
    refine L.nil ?_
    refine W.condF (b := false) rfl rfl ?_
    refine W.skip ?_
    refine W.region ?_
    refine L.v (o_move (v := (.int .i64 (k + (i : Int)))) rfl) ?_
    refine L.v (o_iadd (a := k + (i : Int)) (b := 1) (c := k + ((i + 1 : Nat) : Int)) rfl rfl (by rw [IntWalk.i64_in _ (by omega)]; try (push_cast; omega))) ?_
    refine L.v (o_assign (v := (.int .i64 (k + ((i + 1 : Nat) : Int)))) rfl) ?_
    refine L.nil ?_
    refine W.region ?_
    refine L.v (o_move (v := (.int .i64 (i : Int))) rfl) ?_
    refine L.v (o_iadd (a := (i : Int)) (b := 1) (c := ((i + 1 : Nat) : Int)) rfl rfl (by rw [IntWalk.i64_in _ (by omega)]; try (push_cast; omega))) ?_
    refine L.v (o_assign (v := (.int .i64 (((i + 1 : Nat) : Int)))) rfl) ?_
    refine L.nil ?_
    exact ⟨_, (by omega), i + 1, rfl, (by omega), ⟨rfl, rfl, rfl, trivial⟩, rfl⟩
  ·
    have a7 : ¬ (((i : Int) : Int) < (n : Int)) := of_decide_eq_false q3
    refine W.exit ?_
    refine W.seq ?_
    refine W.region ?_
    refine L.v (o_move (v := (.int .i64 (k + (i : Int)))) rfl) ?_
    refine L.v (o_assign (v := (.int .i64 (k + (i : Int)))) rfl) ?_
    refine L.nil ?_
    refine W.ret ?_
    obtain rfl : i = n := by omega
    exact RetK.one σ (.int .i64 (k + (i : Int))) rfl rfl (Ext.refl _) ⟨rfl, rfl⟩

theorem eqII64 {w0 : World} {σ : Sg} (p q : Option Addr) (c d : Nat) (bs ds : List Nat) (rows : List (Int × Int)) (hs : Sl σ 1 p (bs.map sc)) (hq : Sl σ 1 q (ds.map sc)) (hb : InB σ bs rows) (hd : InB σ ds rows) (hbl : bs.length = rows.length) (hdl : ds.length = rows.length) (hn : rows.length ≤ 1048576) :
    FnV Try.prog w0 19 [(.slice p rows.length c), (.slice q rows.length d)] σ (.bool true) := by
  unfold FnV
  refine Fn.of_W 27 Try.func19 rfl Try.ntmps19 rfl ?_
  refine W.seq ?_
  refine W.region ?_
  refine L.v (o_assign (v := (.bool false)) rfl) ?_
  refine L.nil ?_
  refine W.seq ?_
  refine W.seq ?_
  refine W.region ?_
  refine L.v (o_move (v := (.slice p rows.length c)) rfl) ?_
  refine L.v (o_len (p := p) (n := rows.length) (c := c) Try.underlying33 rfl) ?_
  refine L.v (o_move (v := (.slice q rows.length d)) rfl) ?_
  refine L.v (o_len (p := q) (n := rows.length) (c := d) Try.underlying33 rfl) ?_
  refine L.v (o_ineq (a := (rows.length : Int)) (b := (rows.length : Int)) (c := false) rfl rfl (by simp)) ?_
  refine L.nil ?_
  refine W.condF (b := false) rfl rfl ?_
  refine W.skip ?_
  refine W.seq ?_
  refine W.seq ?_
  refine W.region ?_
  refine L.v (o_assign (v := (.int .i64 0)) rfl) ?_
  refine L.nil ?_
  refine W.block ?_
  refine W.loop (fun nn tt ss => ∃ (i : Nat), nn = rows.length - i ∧ (i ≤ rows.length) ∧ FrOk tt [(0, (.slice p rows.length c)), (1, (.slice q rows.length d)), (5, (.int .i64 (i : Int)))] ∧ σ = ss) _ ⟨0, rfl, (by omega), ⟨rfl, rfl, rfl, trivial⟩, rfl⟩ ?_
  rintro _ t1 _ ⟨i, rfl, hi, f2, rfl⟩
  rw [← frame_ok f2]
  show W _ _ _ _ _ (upd (upd (upd t1 0 (.slice p rows.length c)) 1 (.slice q rows.length d)) 5 (.int .i64 (i : Int))) _
  refine W.seq ?_
  refine W.seq ?_
  refine W.region ?_
  refine L.v (o_move (v := (.int .i64 (i : Int))) rfl) ?_
  refine L.v (o_move (v := (.slice p rows.length c)) rfl) ?_
  refine L.v (o_len (p := p) (n := rows.length) (c := c) Try.underlying33 rfl) ?_
  refine L.v (o_ilss (a := (i : Int)) (b := (rows.length : Int)) rfl rfl rfl) ?_
  refine L.nil ?_
  refine W.cond (b := decide (((i : Int) : Int) < (rows.length : Int))) rfl (fun q3 => ?_) (fun q3 => ?_)
  ·
    have a4 : ((i : Int) : Int) < (rows.length : Int) := of_decide_eq_true q3
    refine W.skip ?_
    refine W.seq ?_
    refine W.block ?_
    refine W.seq ?_
    obtain ⟨b5, o6, rfl, _⟩ := hs.elem i (by omega) 0
    obtain ⟨b7, o8, rfl, _⟩ := hq.elem i (by omega) 0
    refine W.draw [true, true, true, true, true, true, true, true, true, true] (fun s => s = σ) (by kernel_rfl) (by kernel_rfl) ?_
    refine DL.v (fun _ hD => by cases hD; exact o_move (v := (.slice (some ⟨b5, o6, none⟩) rows.length c)) rfl) ?_
    refine DL.v (fun _ hD => by cases hD; exact o_move (v := (.int .i64 (i : Int))) rfl) ?_
    refine DL.v (fun _ hD => by cases hD; exact o_indexAddr (b := b5) (off := o6) (n := rows.length) (c := c) i Try.underlying33 Try.sizeOf62 rfl rfl (by omega)) ?_
    refine DL.v (fun _ hD => by cases hD; exact o_load (b := b5) (off := o6 + i * 1) (v := (.slice (some ⟨(bs.getD i 0), 0, none⟩) 2 2)) Try.isAgg62 rfl (Rds.fst (Sl.at hs i (by omega) 0)) rfl) ?_
    refine DL.v (fun _ hD => by cases hD; exact o_move (v := (.slice (some ⟨b7, o8, none⟩) rows.length d)) rfl) ?_
    refine DL.v (fun _ hD => by cases hD; exact o_move (v := (.int .i64 (i : Int))) rfl) ?_
    refine DL.v (fun _ hD => by cases hD; exact o_indexAddr (b := b7) (off := o8) (n := rows.length) (c := d) i Try.underlying33 Try.sizeOf62 rfl rfl (by omega)) ?_
    refine DL.v (fun _ hD => by cases hD; exact o_load (b := b7) (off := o8 + i * 1) (v := (.slice (some ⟨(ds.getD i 0), 0, none⟩) 2 2)) Try.isAgg62 rfl (Rds.fst (Sl.at hq i (by omega) 0)) rfl) ?_
    refine DL.v (v := (.bool true)) (fun _ hD => by cases hD; exact op_call [(.slice (some ⟨(bs.getD i 0), 0, none⟩) 2 2), (.slice (some ⟨(ds.getD i 0), 0, none⟩) 2 2)] Try.call47 rfl (eqI64 (some ⟨(bs.getD i 0), 0, none⟩) (some ⟨(ds.getD i 0), 0, none⟩) 2 2 (pr rows i) (InB.pair hb i (by omega)) (InB.pair hd i (by omega)) (by show (2 : Nat) ≤ 1048576; decide))) ?_
    refine DL.v (fun _ hD => by cases hD; exact o_not (b := true) (c := false) rfl rfl) ?_
    refine DL.nil rfl ?_
    refine W.condF (b := false) rfl rfl ?_
    refine W.skip ?_
    refine W.region ?_
    refine L.v (o_move (v := (.int .i64 (i : Int))) rfl) ?_
    refine L.v (o_iadd (a := (i : Int)) (b := 1) (c := ((i + 1 : Nat) : Int)) rfl rfl (by rw [IntWalk.i64_in _ (by omega)]; try omega)) ?_
    refine L.v (o_assign (v := (.int .i64 (((i + 1 : Nat) : Int)))) rfl) ?_
    refine L.nil ?_
    exact ⟨_, (by omega), i + 1, rfl, (by omega), ⟨rfl, rfl, rfl, trivial⟩, rfl⟩
  ·
    have a9 : ¬ (((i : Int) : Int) < (rows.length : Int)) := of_decide_eq_false q3
    refine W.exit ?_
    refine W.seq ?_
    refine W.region ?_
    refine L.v (o_assign (v := (.bool true)) rfl) ?_
    refine L.nil ?_
    refine W.ret ?_
    exact RetK.one σ (.bool true) rfl rfl (Ext.refl _) ⟨by first | rfl | (exfalso; omega) | (exact absurd rfl (by assumption)), rfl⟩

def mrows (k : Int) (n : Nat) : List (Int × Int) := (List.range n).map fun (j : Nat) => (k + 2 * (j : Int), k + 2 * (j : Int) + 1)
theorem mrows_len (k : Int) (n : Nat) : (mrows k n).length = n := by simp [mrows]
theorem heldP {w0 : World} {σ : Sg} {bs : List Nat} {k : Int} {n i : Nat} (hb : InB σ bs (mrows k n)) (hi : i < n) (hn : n ≤ 1024) (hk : 0 ≤ k ∧ k ≤ 549755813888) :
    FnV Try.prog w0 49 [.slice (some ⟨bs.getD i 0, 0, .none⟩) 2 2, .int .i64 (k + 2 * (i : Int))] σ (.int .i64 (k + 2 * ((i + 1 : Nat) : Int))) := by
  have h := heldI64 (w0 := w0) (σ := σ) (some ⟨bs.getD i 0, 0, .none⟩) 2 2 (k + 2 * (i : Int)) ?_ (by omega) (by omega)
  · rwa [show k + 2 * (i : Int) + ((2 : Nat) : Int) = k + 2 * ((i + 1 : Nat) : Int) by omega] at h
  · have h1 := InB.pair hb i (by rw [mrows_len]; exact hi)
    have e : (pr (mrows k n) i).map il = marksI (k + 2 * (i : Int)) 2 := by
      have e1 : (mrows k n).getD i (0, 0) = (k + 2 * (i : Int), k + 2 * (i : Int) + 1) := by simp [mrows, List.getD_eq_getElem?_getD, hi]
      rw [pr, e1]
      simp [marksI, List.range_succ]
    rwa [e] at h1

theorem heldII64 {w0 : World} {σ : Sg} (p : Option Addr) (n c : Nat) (k : Int) (bs : List Nat) (hs : Sl σ 1 p (bs.map sc)) (hb : InB σ bs (mrows k n)) (hbl : bs.length = n) (hn : n ≤ 1024) (hk : 0 ≤ k ∧ k ≤ 549755813888) :
    FnV Try.prog w0 21 [(.slice p n c), (.int .i64 k)] σ (.int .i64 (k + 2 * n)) := by
  unfold FnV
  refine Fn.of_W 21 Try.func21 rfl Try.ntmps21 rfl ?_
  refine W.seq ?_
  refine W.region ?_
  refine L.v (o_assign (v := (.int .i64 0)) rfl) ?_
  refine L.nil ?_
  refine W.seq ?_
  refine W.seq ?_
  refine W.region ?_
  refine L.v (o_assign (v := (.int .i64 0)) rfl) ?_
  refine L.nil ?_
  refine W.block ?_
  refine W.loop (fun nn tt ss => ∃ (i : Nat), nn = n - i ∧ (i ≤ n) ∧ FrOk tt [(0, (.slice p n c)), (1, (.int .i64 (k + 2 * (i : Int)))), (5, (.int .i64 (i : Int)))] ∧ σ = ss) _ ⟨0, rfl, (by omega), ⟨rfl, (by show Value.int .i64 k = _; simp), rfl, trivial⟩, rfl⟩ ?_
  rintro _ t1 _ ⟨i, rfl, hi, f2, rfl⟩
  rw [← frame_ok f2]
  show W _ _ _ _ _ (upd (upd (upd t1 0 (.slice p n c)) 1 (.int .i64 (k + 2 * (i : Int)))) 5 (.int .i64 (i : Int))) _
  refine W.seq ?_
  refine W.seq ?_
  refine W.region ?_
  refine L.v (o_move (v := (.int .i64 (i : Int))) rfl) ?_
  refine L.v (o_move (v := (.slice p n c)) rfl) ?_
  refine L.v (o_len (p := p) (n := n) (c := c) Try.underlying33 rfl) ?_
  refine L.v (o_ilss (a := (i : Int)) (b := (n : Int)) rfl rfl rfl) ?_
  refine L.nil ?_
  refine W.cond (b := decide (((i : Int) : Int) < (n : Int))) rfl (fun q3 => ?_) (fun q3 => ?_)
  ·
    have a4 : ((i : Int) : Int) < (n : Int) := of_decide_eq_true q3
    refine W.skip ?_
    refine W.seq ?_
    refine W.block ?_
    refine W.seq ?_
    obtain ⟨b5, o6, rfl, _⟩ := hs.elem i (by omega) 0
    have hh := heldP (w0 := w0) (hb := hb) (i := i) (by omega) hn hk
    refine W.region ?_
    refine L.v (o_move (v := (.slice (some ⟨b5, o6, none⟩) n c)) rfl) ?_
    refine L.v (o_move (v := (.int .i64 (i : Int))) rfl) ?_
    refine L.v (o_indexAddr (b := b5) (off := o6) (n := n) (c := c) i Try.underlying33 Try.sizeOf62 rfl rfl (by omega)) ?_
    refine L.v (o_load (b := b5) (off := o6 + i * 1) (v := (.slice (some ⟨(bs.getD i 0), 0, none⟩) 2 2)) Try.isAgg62 rfl (Rds.fst (Sl.at hs i (by omega) 0)) rfl) ?_
    refine L.v (o_move (v := (.int .i64 (k + 2 * (i : Int)))) rfl) ?_
    refine L.v (v := (.int .i64 (k + 2 * ((i + 1 : Nat) : Int)))) (op_call [(.slice (some ⟨(bs.getD i 0), 0, none⟩) 2 2), (.int .i64 (k + 2 * (i : Int)))] Try.call49 rfl (hh)) ?_
    refine L.v (o_assign (v := (.int .i64 (k + 2 * ((i + 1 : Nat) : Int)))) rfl) ?_
    refine L.nil ?_
    refine W.seq ?_
    refine W.region ?_
    refine L.v (o_move (v := (.int .i64 (k + 2 * ((i + 1 : Nat) : Int)))) rfl) ?_
    refine L.v (o_ilss (a := k + 2 * ((i + 1 : Nat) : Int)) (b := 0) rfl rfl rfl) ?_
    refine L.nil ?_
    refine W.condF (b := decide ((k + 2 * ((i + 1 : Nat) : Int) : Int) < 0)) rfl (decide_eq_false (by omega)) ?_
    refine W.skip ?_
    refine W.region ?_
    refine L.v (o_move (v := (.int .i64 (i : Int))) rfl) ?_
    refine L.v (o_iadd (a := (i : Int)) (b := 1) (c := ((i + 1 : Nat) : Int)) rfl rfl (by rw [IntWalk.i64_in _ (by omega)]; try omega)) ?_
    refine L.v (o_assign (v := (.int .i64 (((i + 1 : Nat) : Int)))) rfl) ?_
    refine L.nil ?_
    exact ⟨_, (by omega), i + 1, rfl, (by omega), ⟨rfl, rfl, rfl, trivial⟩, rfl⟩
  ·
    have a7 : ¬ (((i : Int) : Int) < (n : Int)) := of_decide_eq_false q3
    refine W.exit ?_
    refine W.seq ?_
    refine W.region ?_
    refine L.v (o_move (v := (.int .i64 (k + 2 * (i : Int)))) rfl) ?_
    refine L.v (o_assign (v := (.int .i64 (k + 2 * (i : Int)))) rfl) ?_
    refine L.nil ?_
    refine W.ret ?_
    obtain rfl : i = n := by omega
    exact RetK.one σ (.int .i64 (k + 2 * (i : Int))) rfl rfl (Ext.refl _) ⟨rfl, rfl⟩

def mcell (k : Int) (j : Nat) : List Value := [.int .i64 (k + 2 * (j : Int)), .int .i64 (k + 2 * (j : Int) + 1)]
theorem mrows_pr {k : Int} {n i : Nat} (hi : i < n) : (pr (mrows k n) i).map (Value.int .i64) = mcell k i := by
  have e1 : (mrows k n).getD i (0, 0) = (k + 2 * (i : Int), k + 2 * (i : Int) + 1) := by simp [mrows, List.getD_eq_getElem?_getD, hi]
  rw [pr, e1]; rfl
theorem Sl.keep {s σ : Sg} {k : Nat} {p : Option Addr} {rows : List (List Value)} (h : Sl σ k p rows) (hp : ∀ b off, p = some ⟨b, off, .none⟩ → s b = σ b) : Sl s k p rows := by
  rcases h with h | ⟨b, off, rfl, h⟩
  · exact .inl h
  · refine .inr ⟨b, off, rfl, fun i r hr j v hj => ?_⟩
    obtain ⟨e, cs, h1, h2⟩ := h i r hr j v hj
    exact ⟨e, cs, by rw [hp b off rfl]; exact h1, h2⟩
/-- the first i inner blocks are marked, the rest of them and all else is as it was -/
def MkS (σ s : Sg) (bs : List Nat) (rows : List (Int × Int)) (k : Int) (n i : Nat) : Prop :=
  (∀ x, x ∉ bs → s x = σ x) ∧ ∀ j, j < n → s (bs.getD j 0) = some (2, if j < i then mcell k j else (pr rows j).map (Value.int .i64))
theorem MkS.zero {σ : Sg} {bs : List Nat} {rows : List (Int × Int)} {k : Int} {n : Nat} (hb : InB σ bs rows) (hl : rows.length = n) : MkS σ σ bs rows k n 0 :=
  ⟨fun _ _ => rfl, fun j hj => by rw [if_neg (by omega)]; exact hb j (by omega)⟩
theorem MkS.done {σ s : Sg} {bs : List Nat} {rows : List (Int × Int)} {k : Int} {n : Nat} (h : MkS σ s bs rows k n n) : InB s bs (mrows k n) := fun i hi => by
  rw [mrows_len] at hi
  rw [h.2 i hi, if_pos hi, mrows_pr hi]
theorem MkS.step {σ s : Sg} {bs : List Nat} {rows : List (Int × Int)} {k : Int} {n i : Nat} (h : MkS σ s bs rows k n i) (hi : i < n) (hl : bs.length = n) (hinj : ∀ i j, i < n → j < n → bs.getD i 0 = bs.getD j 0 → i = j) :
    MkS σ (sg s (bs.getD i 0) (2, mcell k i)) bs rows k n (i + 1) := by
  refine ⟨fun x hx => ?_, fun j hj => ?_⟩
  · have hne : x ≠ bs.getD i 0 := fun e => hx (by
      rw [e, List.getD_eq_getElem?_getD, List.getElem?_eq_getElem (by omega)]; exact List.getElem_mem _)
    rw [sg_ne hne]; exact h.1 x hx
  · by_cases hji : j = i
    · subst hji; rw [sg_eq, if_pos (by omega)]
    · rw [sg_ne (fun e => hji (hinj _ _ hj hi e)), h.2 j hj]
      by_cases hlt : j < i
      · rw [if_pos hlt, if_pos (by omega)]
      · rw [if_neg hlt, if_neg (by omega)]
theorem markP {w0 : World} {s : Sg} {b : Nat} {cs : List Value} {k : Int} {n i : Nat} (hb : s b = some (2, if i < i then mcell k i else cs)) (hw : w0.heap.size ≤ b) (hn : n ≤ 1024) (hk : 0 ≤ k ∧ k ≤ 549755813888) (hi : i < n) (hc : cs.length = 2 := by rfl) :
    Fn Try.prog w0 48 [.slice (some ⟨b, 0, .none⟩) 2 2, .int .i64 (k + 2 * (i : Int))] s (fun u s' => u = .int .i64 (k + 2 * ((i + 1 : Nat) : Int)) ∧ s' = sg s b (2, mcell k i)) := by
  rw [if_neg (by omega)] at hb
  refine (markIB (w0 := w0) (σ := s) b 2 2 2 cs (k + 2 * (i : Int)) hb hw (by omega) (by omega) (by omega)).mono fun u s' ⟨h1, h2⟩ => ⟨by rw [h1]; exact congrArg _ (by omega), ?_⟩
  rw [h2]
  match cs, hc with
  | [x, y], _ => simp [mkc, markI, mcell]

theorem markII64 {w0 : World} {σ : Sg} (p : Option Addr) (n c : Nat) (k : Int) (bs : List Nat) (rows : List (Int × Int)) (hs : Sl σ 1 p (bs.map sc)) (hb : InB σ bs rows) (hbl : bs.length = n) (hrl : rows.length = n) (hinj : ∀ i j, i < n → j < n → bs.getD i 0 = bs.getD j 0 → i = j) (hw : ∀ i, i < n → w0.heap.size ≤ bs.getD i 0) (hp : ∀ b off, p = some ⟨b, off, none⟩ → b ∉ bs) (hn : n ≤ 1024) (hk : 0 ≤ k ∧ k ≤ 549755813888) :
    Fn Try.prog w0 20 [(.slice p n c), (.int .i64 k)] σ (fun u s => u = .int .i64 (k + 2 * n) ∧ (∀ x, x ∉ bs → s x = σ x) ∧ InB s bs (mrows k n)) := by
  refine Fn.of_W 19 Try.func20 rfl Try.ntmps20 rfl ?_
  refine W.seq ?_
  refine W.region ?_
  refine L.v (o_assign (v := (.int .i64 0)) rfl) ?_
  refine L.nil ?_
  refine W.seq ?_
  refine W.seq ?_
  refine W.region ?_
  refine L.v (o_assign (v := (.int .i64 0)) rfl) ?_
  refine L.nil ?_
  refine W.block ?_
  refine W.loop (fun nn tt ss => ∃ (i : Nat), nn = n - i ∧ i ≤ n ∧ MkS σ ss bs rows k n i ∧ FrOk tt [(0, (.slice p n c)), (1, .int .i64 (k + 2 * (i : Int))), (5, .int .i64 (i : Int))]) _ ⟨0, rfl, by omega, MkS.zero hb hrl, ⟨rfl, (by show Value.int .i64 k = _; simp), rfl, trivial⟩⟩ ?_
  rintro _ t1 s1 ⟨i, rfl, hi, hm, f1⟩
  rw [← frame_ok f1]
  show W _ _ _ _ _ (upd (upd (upd t1 0 (.slice p n c)) 1 (.int .i64 (k + 2 * (i : Int)))) 5 (.int .i64 (i : Int))) _
  refine W.seq ?_
  refine W.seq ?_
  refine W.region ?_
  refine L.v (o_move (v := (.int .i64 (i : Int))) rfl) ?_
  refine L.v (o_move (v := (.slice p n c)) rfl) ?_
  refine L.v (o_len (p := p) (n := n) (c := c) Try.underlying33 rfl) ?_
  refine L.v (o_ilss (a := (i : Int)) (b := (n : Int)) rfl rfl rfl) ?_
  refine L.nil ?_
  refine W.cond (b := decide (((i : Int) : Int) < (n : Int))) rfl (fun q1 => ?_) (fun q1 => ?_)
  ·
    have a2 : ((i : Int) : Int) < (n : Int) := of_decide_eq_true q1
    refine W.skip ?_
    refine W.seq ?_
    refine W.block ?_
    obtain ⟨b3, o4, rfl, _⟩ := hs.elem i (by omega) 0
    have hs1 := Sl.keep hs (fun b' o' e => hm.1 b' (hp b' o' e))
    have hh := markP (w0 := w0) (hm.2 i (by omega)) (hw _ (by omega)) hn hk (show i < n by omega)
    refine W.region ?_
    refine L.v (o_move (v := (.slice (some ⟨b3, o4, none⟩) n c)) rfl) ?_
    refine L.v (o_move (v := (.int .i64 (i : Int))) rfl) ?_
    refine L.v (o_indexAddr (b := b3) (off := o4) (n := n) (c := c) i Try.underlying33 Try.sizeOf62 rfl rfl (by omega)) ?_
    refine L.v (o_load (b := b3) (off := o4 + i * 1) (v := (.slice (some ⟨(bs.getD i 0), 0, none⟩) 2 2)) Try.isAgg62 rfl (Rds.fst (Sl.at hs1 i (by omega) 0)) rfl) ?_
    refine L.v (o_move (v := (.int .i64 (k + 2 * (i : Int)))) rfl) ?_
    refine L.cons (op_call [(.slice (some ⟨(bs.getD i 0), 0, none⟩) 2 2), (.int .i64 (k + 2 * (i : Int)))] Try.call48 rfl (hh)) ?_
    rintro _ _ ⟨rfl, rfl⟩
    refine L.v (o_assign (v := (.int .i64 (k + 2 * ((i + 1 : Nat) : Int)))) rfl) ?_
    refine L.nil ?_
    refine W.region ?_
    refine L.v (o_move (v := (.int .i64 (i : Int))) rfl) ?_
    refine L.v (o_iadd (a := (i : Int)) (b := 1) (c := ((i + 1 : Nat) : Int)) rfl rfl (by rw [IntWalk.i64_in _ (by omega)]; try omega)) ?_
    refine L.v (o_assign (v := (.int .i64 (((i + 1 : Nat) : Int)))) rfl) ?_
    refine L.nil ?_
    exact ⟨_, (by omega), i + 1, rfl, by omega, MkS.step hm (by omega) hbl hinj, ⟨rfl, rfl, rfl, trivial⟩⟩
  ·
    have a5 : ¬ (((i : Int) : Int) < (n : Int)) := of_decide_eq_false q1
    refine W.exit ?_
    refine W.seq ?_
    refine W.region ?_
    refine L.v (o_move (v := (.int .i64 (k + 2 * (i : Int)))) rfl) ?_
    refine L.v (o_assign (v := (.int .i64 (k + 2 * (i : Int)))) rfl) ?_
    refine L.nil ?_
    refine W.ret ?_
    obtain rfl : i = n := by omega
    exact RetK.one _ (.int .i64 (k + 2 * (i : Int))) rfl rfl (Ext.refl _) ⟨rfl, hm.1, hm.done⟩

end Go.Proofs.Ytpgmpjejfpmnoaa.En
