/- The laws' own helpers that count and mark lists of numbers: what each call gives. -/
import Derived.Test.YtakeanehgfbbaaaEngJ
import Derived.Test.YtakeanehgfbbaaaLib
import Derived.Test.YtakeanehgfbbaaaRows
namespace Go.Proofs.Ytakeanehgfbbaaa.En
open Go
set_option linter.unusedVariables false
theorem withinI {w0 : World} {σ : Sg} (n lo hi : Int) :
    FnV Try.prog w0 42 [(.int .i64 n), (.int .i64 lo), (.int .i64 hi)] σ (.bool (decide (lo ≤ n ∧ n ≤ hi))) := by
  unfold FnV
  refine Fn.of_W 15 Try.func42 rfl Try.ntmps42 rfl ?_
  refine W.seq ?_
  refine W.region ?_
  refine L.v (o_assign (v := (.bool false)) rfl) ?_
  refine L.nil ?_
  refine W.seq ?_
  refine W.region ?_
  refine L.v (o_move (v := (.int .i64 lo)) rfl) ?_
  refine L.v (o_move (v := (.int .i64 n)) rfl) ?_
  refine L.v (o_ileq (a := lo) (b := n) rfl rfl rfl) ?_
  refine L.v (o_move (v := (.bool (decide ((lo : Int) ≤ n)))) rfl) ?_
  rcases Bool.eq_false_or_eq_true (decide ((lo : Int) ≤ n)) with q1 | q1
  ·
    have a2 : (lo : Int) ≤ n := of_decide_eq_true q1
    refine L.gv (j := 3) (d₁ := 10) (b := decide ((lo : Int) ≤ n)) rfl rfl rfl q1 (o_move (v := (.int .i64 n)) rfl) ?_
    refine L.gv (j := 3) (d₁ := 10) (b := decide ((lo : Int) ≤ n)) rfl rfl rfl q1 (o_move (v := (.int .i64 hi)) rfl) ?_
    refine L.gv (j := 3) (d₁ := 10) (b := decide ((lo : Int) ≤ n)) rfl rfl rfl q1 (o_ileq (a := n) (b := hi) rfl rfl rfl) ?_
    refine L.v (o_pickT (b := decide ((lo : Int) ≤ n)) (v := (.bool (decide ((n : Int) ≤ hi)))) rfl q1 rfl) ?_
    refine L.v (o_assign (v := (.bool (decide ((n : Int) ≤ hi)))) rfl) ?_
    refine L.nil ?_
    refine W.ret ?_
    exact RetK.one σ (.bool (decide ((n : Int) ≤ hi))) rfl rfl (Ext.refl _) ⟨by first | rfl | (congr 1; exact decide_eq_decide.2 (by omega)) | (congr 1; exact (decide_eq_false (by omega)).symm) | (congr 1; exact (decide_eq_true (by omega)).symm), rfl⟩
  ·
    have a3 : ¬ ((lo : Int) ≤ n) := of_decide_eq_false q1
    refine L.gF (j := 3) (d₁ := 10) (b := decide ((lo : Int) ≤ n)) rfl rfl rfl q1 ?_
    refine L.gF (j := 3) (d₁ := 10) (b := decide ((lo : Int) ≤ n)) rfl rfl rfl q1 ?_
    refine L.gF (j := 3) (d₁ := 10) (b := decide ((lo : Int) ≤ n)) rfl rfl rfl q1 ?_
    refine L.v (o_pickF (b := decide ((lo : Int) ≤ n)) (v := (.bool false)) rfl q1 rfl) ?_
    refine L.v (o_assign (v := (.bool false)) rfl) ?_
    refine L.nil ?_
    refine W.ret ?_
    exact RetK.one σ (.bool false) rfl rfl (Ext.refl _) ⟨by first | rfl | (congr 1; exact decide_eq_decide.2 (by omega)) | (congr 1; exact (decide_eq_false (by omega)).symm) | (congr 1; exact (decide_eq_true (by omega)).symm), rfl⟩

theorem withinS {w0 : World} {σ : Sg} (n lo hi : Int) :
    FnV Try.prog w0 41 [(.int .i64 n), (.int .i64 lo), (.int .i64 hi)] σ (.bool (decide (lo ≤ n ∧ n ≤ hi))) := by
  unfold FnV
  refine Fn.of_W 15 Try.func41 rfl Try.ntmps41 rfl ?_
  refine W.seq ?_
  refine W.region ?_
  refine L.v (o_assign (v := (.bool false)) rfl) ?_
  refine L.nil ?_
  refine W.seq ?_
  refine W.region ?_
  refine L.v (o_move (v := (.int .i64 n)) rfl) ?_
  refine L.v (o_move (v := (.int .i64 lo)) rfl) ?_
  refine L.v (o_igeq (a := n) (b := lo) rfl rfl rfl) ?_
  refine L.v (o_move (v := (.bool (decide ((lo : Int) ≤ n)))) rfl) ?_
  rcases Bool.eq_false_or_eq_true (decide ((lo : Int) ≤ n)) with q1 | q1
  ·
    have a2 : (lo : Int) ≤ n := of_decide_eq_true q1
    refine L.gv (j := 3) (d₁ := 10) (b := decide ((lo : Int) ≤ n)) rfl rfl rfl q1 (o_move (v := (.int .i64 n)) rfl) ?_
    refine L.gv (j := 3) (d₁ := 10) (b := decide ((lo : Int) ≤ n)) rfl rfl rfl q1 (o_move (v := (.int .i64 hi)) rfl) ?_
    refine L.gv (j := 3) (d₁ := 10) (b := decide ((lo : Int) ≤ n)) rfl rfl rfl q1 (o_ileq (a := n) (b := hi) rfl rfl rfl) ?_
    refine L.v (o_pickT (b := decide ((lo : Int) ≤ n)) (v := (.bool (decide ((n : Int) ≤ hi)))) rfl q1 rfl) ?_
    refine L.v (o_assign (v := (.bool (decide ((n : Int) ≤ hi)))) rfl) ?_
    refine L.nil ?_
    refine W.ret ?_
    exact RetK.one σ (.bool (decide ((n : Int) ≤ hi))) rfl rfl (Ext.refl _) ⟨by first | rfl | (congr 1; exact decide_eq_decide.2 (by omega)) | (congr 1; exact (decide_eq_false (by omega)).symm) | (congr 1; exact (decide_eq_true (by omega)).symm), rfl⟩
  ·
    have a3 : ¬ ((lo : Int) ≤ n) := of_decide_eq_false q1
    refine L.gF (j := 3) (d₁ := 10) (b := decide ((lo : Int) ≤ n)) rfl rfl rfl q1 ?_
    refine L.gF (j := 3) (d₁ := 10) (b := decide ((lo : Int) ≤ n)) rfl rfl rfl q1 ?_
    refine L.gF (j := 3) (d₁ := 10) (b := decide ((lo : Int) ≤ n)) rfl rfl rfl q1 ?_
    refine L.v (o_pickF (b := decide ((lo : Int) ≤ n)) (v := (.bool false)) rfl q1 rfl) ?_
    refine L.v (o_assign (v := (.bool false)) rfl) ?_
    refine L.nil ?_
    refine W.ret ?_
    exact RetK.one σ (.bool false) rfl rfl (Ext.refl _) ⟨by first | rfl | (congr 1; exact decide_eq_decide.2 (by omega)) | (congr 1; exact (decide_eq_false (by omega)).symm) | (congr 1; exact (decide_eq_true (by omega)).symm), rfl⟩

theorem isListF {w0 : World} {σ : Sg} (p : Option Addr) (n c : Nat) :
    FnV Try.prog w0 33 [(.slice p n c)] σ (.bool (decide ((n : Int) ≤ 256))) := by
  unfold FnV
  refine Fn.of_W 6 Try.func33 rfl Try.ntmps33 rfl ?_
  refine W.seq ?_
  refine W.region ?_
  refine L.v (o_assign (v := (.bool false)) rfl) ?_
  refine L.nil ?_
  refine W.seq ?_
  refine W.region ?_
  refine L.v (o_move (v := (.slice p n c)) rfl) ?_
  refine L.v (o_len (p := p) (n := n) (c := c) Try.underlying22 rfl) ?_
  refine L.v (o_ileq (a := (n : Int)) (b := 256) rfl rfl rfl) ?_
  refine L.v (o_assign (v := (.bool (decide (((n : Int) : Int) ≤ 256)))) rfl) ?_
  refine L.nil ?_
  refine W.ret ?_
  exact RetK.one σ (.bool (decide (((n : Int) : Int) ≤ 256))) rfl rfl (Ext.refl _) ⟨rfl, rfl⟩

theorem markB {w0 : World} {σ : Sg} (b e n c : Nat) (cs : List Value) (k : Int) (hb : σ b = some (e, cs)) (hw : w0.heap.size ≤ b) (hn : n ≤ cs.length) (hm : n ≤ 1048576) (hk : 0 ≤ k ∧ k ≤ 1099511627776) :
    Fn Try.prog w0 22 [(.slice (some ⟨b, 0, none⟩) n c), (.int .i64 k)] σ (fun u s => u = .int .i64 (k + n) ∧ s = sg σ b (e, mkc (mark32 k) cs n)) := by
  refine Fn.of_W 20 Try.func22 rfl Try.ntmps22 rfl ?_
  refine W.seq ?_
  refine W.region ?_
  refine L.v (o_assign (v := (.int .i64 0)) rfl) ?_
  refine L.nil ?_
  refine W.seq ?_
  refine W.seq ?_
  refine W.region ?_
  refine L.v (o_assign (v := (.int .i64 0)) rfl) ?_
  refine L.nil ?_
  refine W.block ?_
  refine W.loop (fun nn tt ss => ∃ (i : Nat), nn = n - i ∧ (i ≤ n) ∧ FrOk tt [(0, (.slice (some ⟨b, 0, none⟩) n c)), (1, (.int .i64 (k + (i : Int)))), (5, (.int .i64 (i : Int)))] ∧ sg σ b (e, mkc (mark32 k) cs i) = ss) _ ⟨0, rfl, (by omega), ⟨rfl, (by show Value.int .i64 k = _; simp), rfl, trivial⟩, sg_same hb⟩ ?_
  rintro _ t1 _ ⟨i, rfl, hi, f2, rfl⟩
  rw [← frame_ok f2]
  show W _ _ _ _ _ (upd (upd (upd t1 0 (.slice (some ⟨b, 0, none⟩) n c)) 1 (.int .i64 (k + (i : Int)))) 5 (.int .i64 (i : Int))) _
  refine W.seq ?_
  refine W.seq ?_
  refine W.region ?_
  refine L.v (o_move (v := (.int .i64 (i : Int))) rfl) ?_
  refine L.v (o_move (v := (.slice (some ⟨b, 0, none⟩) n c)) rfl) ?_
  refine L.v (o_len (p := (some ⟨b, 0, none⟩)) (n := n) (c := c) Try.underlying22 rfl) ?_
  refine L.v (o_ilss (a := (i : Int)) (b := (n : Int)) rfl rfl rfl) ?_
  refine L.nil ?_
  refine W.cond (b := decide (((i : Int) : Int) < (n : Int))) rfl (fun q3 => ?_) (fun q3 => ?_)
  ·
    have a4 : ((i : Int) : Int) < (n : Int) := of_decide_eq_true q3
    refine W.skip ?_
    refine W.seq ?_
    refine W.block ?_
    refine W.seq ?_
    refine W.region ?_
    refine L.v (o_move (v := (.slice (some ⟨b, 0, none⟩) n c)) rfl) ?_
    refine L.v (o_move (v := (.int .i64 (i : Int))) rfl) ?_
    refine L.v (o_move (v := (.int .i64 (k + (i : Int)))) rfl) ?_
    refine L.v (o_cvIF (a := k + (i : Int)) (by rw [Try.underlying3]; rfl) Try.underlying23 rfl) ?_
    refine L.v (o_indexAddr (b := b) (off := 0) (n := n) (c := c) i Try.underlying22 Try.sizeOf23 rfl rfl (by omega)) ?_
    refine L.cons0 (o_store (b := b) (off := 0 + i * 1) (v := (.float .f32 (FloatKind.nearest .f32 (k + (i : Int))))) Try.sizeOf23 rfl rfl rfl (sg_eq _ _ _) (by rw [mkc_length]; omega) hw) ?_
    rintro _ _ ⟨rfl, rfl⟩
    rw [sg_sg, show (mkc (mark32 k) cs i).set (0 + i * 1) (.float .f32 (FloatKind.nearest .f32 (k + (i : Int)))) = mkc (mark32 k) cs (i + 1) by rw [show 0 + i * 1 = i by omega]; rfl]
    refine L.nil ?_
    refine W.region ?_
    refine L.v (o_move (v := (.int .i64 (k + (i : Int)))) rfl) ?_
    refine L.v (o_iadd (a := k + (i : Int)) (b := 1) (c := k + ((i + 1 : Nat) : Int)) rfl rfl (by rw [IntWalk.i64_in _ (by omega)]; try (push_cast; omega))) ?_
    refine L.v (o_assign (v := (.int .i64 (k + ((i + 1 : Nat) : Int)))) rfl) ?_
    refine L.nil ?_
    refine W.region ?_
    refine L.v (o_move (v := (.int .i64 (i : Int))) rfl) ?_
    refine L.v (o_iadd (a := (i : Int)) (b := 1) (c := ((i + 1 : Nat) : Int)) rfl rfl (by rw [IntWalk.i64_in _ (by omega)]; try (push_cast; omega))) ?_
    refine L.v (o_assign (v := (.int .i64 (((i + 1 : Nat) : Int)))) rfl) ?_
    refine L.nil ?_
    exact ⟨_, (by omega), i + 1, rfl, (by omega), ⟨rfl, rfl, rfl, trivial⟩, rfl⟩
  ·
    have a5 : ¬ (((i : Int) : Int) < (n : Int)) := of_decide_eq_false q3
    refine W.exit ?_
    refine W.seq ?_
    refine W.region ?_
    refine L.v (o_move (v := (.int .i64 (k + (i : Int)))) rfl) ?_
    refine L.v (o_assign (v := (.int .i64 (k + (i : Int)))) rfl) ?_
    refine L.nil ?_
    refine W.ret ?_
    obtain rfl : i = n := by omega
    exact RetK.one _ (.int .i64 (k + (i : Int))) rfl rfl (Ext.refl _) ⟨rfl, rfl⟩

theorem markE {w0 : World} {σ : Sg} (p : Option Addr) (c : Nat) (k : Int) :
    Fn Try.prog w0 22 [(.slice p 0 c), (.int .i64 k)] σ (fun u s => u = .int .i64 (k + (0 : Nat)) ∧ s = σ) := by
  refine Fn.of_W 20 Try.func22 rfl Try.ntmps22 rfl ?_
  refine W.seq ?_
  refine W.region ?_
  refine L.v (o_assign (v := (.int .i64 0)) rfl) ?_
  refine L.nil ?_
  refine W.seq ?_
  refine W.seq ?_
  refine W.region ?_
  refine L.v (o_assign (v := (.int .i64 0)) rfl) ?_
  refine L.nil ?_
  refine W.block ?_
  refine W.loop (fun nn tt ss => ∃ (i : Nat), nn = 0 ∧ (i = 0) ∧ FrOk tt [(0, (.slice p 0 c)), (1, (.int .i64 k)), (5, (.int .i64 (i : Int)))] ∧ σ = ss) _ ⟨0, rfl, (by omega), ⟨rfl, rfl, rfl, trivial⟩, rfl⟩ ?_
  rintro _ t1 _ ⟨i, rfl, hi, f2, rfl⟩
  rw [← frame_ok f2]
  show W _ _ _ _ _ (upd (upd (upd t1 0 (.slice p 0 c)) 1 (.int .i64 k)) 5 (.int .i64 (i : Int))) _
  refine W.seq ?_
  refine W.seq ?_
  refine W.region ?_
  refine L.v (o_move (v := (.int .i64 (i : Int))) rfl) ?_
  refine L.v (o_move (v := (.slice p 0 c)) rfl) ?_
  refine L.v (o_len (p := p) (n := 0) (c := c) Try.underlying22 rfl) ?_
  refine L.v (o_ilss (a := (i : Int)) (b := 0) rfl rfl rfl) ?_
  refine L.nil ?_
  refine W.cond (b := decide (((i : Int) : Int) < 0)) rfl (fun q3 => ?_) (fun q3 => ?_)
  ·
    have a4 : ((i : Int) : Int) < 0 := of_decide_eq_true q3
    exact absurd (of_decide_eq_true q3) (by omega)
  ·
    have a5 : ¬ (((i : Int) : Int) < 0) := of_decide_eq_false q3
    refine W.exit ?_
    refine W.seq ?_
    refine W.region ?_
    refine L.v (o_move (v := (.int .i64 k)) rfl) ?_
    refine L.v (o_assign (v := (.int .i64 k)) rfl) ?_
    refine L.nil ?_
    refine W.ret ?_
    exact RetK.one _ (.int .i64 k) rfl rfl (Ext.refl _) ⟨by simp, rfl⟩

theorem markF {w0 : World} {σ : Sg} (p : Option Addr) (n c : Nat) (k : Int) (ho : Mut w0 σ n p) (hm : n ≤ 1048576) (hk : 0 ≤ k ∧ k ≤ 1099511627776) :
    Fn Try.prog w0 22 [.slice p n c, .int .i64 k] σ (fun u s => u = .int .i64 (k + n) ∧ Mkd σ s n p ∧ Sl s 1 p (marks32 k n)) := by
  by_cases h0 : n = 0
  · subst h0
    exact (markE p c k).mono fun u s ⟨h1, h2⟩ => ⟨h1, .inl ⟨rfl, h2⟩, .inl rfl⟩
  · rcases ho with ho | ⟨b, e, cs, rfl, hw, hb, hl⟩
    · exact absurd ho h0
    · refine (markB b e n c cs k hb hw hl hm hk).mono fun u s ⟨h1, h2⟩ => ⟨h1, .inr ⟨h0, b, rfl, ?_⟩, ?_⟩
      · rw [h2]; exact But.sg
      · exact Sl.of_mkc (by rw [h2]; exact sg_eq _ _ _) hl

theorem heldF {w0 : World} {σ : Sg} (p : Option Addr) (n c : Nat) (k : Int) (hs : Sl σ 1 p (marks32 k n)) (hm : n ≤ 1048576) (hk : 0 ≤ k ∧ k ≤ 1099511627776) :
    FnV Try.prog w0 23 [(.slice p n c), (.int .i64 k)] σ (.int .i64 (k + n)) := by
  unfold FnV
  refine Fn.of_W 22 Try.func23 rfl Try.ntmps23 rfl ?_
  refine W.seq ?_
  refine W.region ?_
  refine L.v (o_assign (v := (.int .i64 0)) rfl) ?_
  refine L.nil ?_
  refine W.seq ?_
  refine W.seq ?_
  refine W.region ?_
  refine L.v (o_assign (v := (.int .i64 0)) rfl) ?_
  refine L.nil ?_
  refine W.block ?_
  refine W.loop (fun nn tt ss => ∃ (i : Nat), nn = n - i ∧ (i ≤ n) ∧ FrOk tt [(0, (.slice p n c)), (1, (.int .i64 (k + (i : Int)))), (5, (.int .i64 (i : Int)))] ∧ σ = ss) _ ⟨0, rfl, (by omega), ⟨rfl, (by show Value.int .i64 k = _; simp), rfl, trivial⟩, rfl⟩ ?_
  rintro _ t1 _ ⟨i, rfl, hi, f2, rfl⟩
  rw [← frame_ok f2]
  show W _ _ _ _ _ (upd (upd (upd t1 0 (.slice p n c)) 1 (.int .i64 (k + (i : Int)))) 5 (.int .i64 (i : Int))) _
  refine W.seq ?_
  refine W.seq ?_
  refine W.region ?_
  refine L.v (o_move (v := (.int .i64 (i : Int))) rfl) ?_
  refine L.v (o_move (v := (.slice p n c)) rfl) ?_
  refine L.v (o_len (p := p) (n := n) (c := c) Try.underlying22 rfl) ?_
  refine L.v (o_ilss (a := (i : Int)) (b := (n : Int)) rfl rfl rfl) ?_
  refine L.nil ?_
  refine W.cond (b := decide (((i : Int) : Int) < (n : Int))) rfl (fun q3 => ?_) (fun q3 => ?_)
  ·
    have a4 : ((i : Int) : Int) < (n : Int) := of_decide_eq_true q3
    refine W.skip ?_
    refine W.seq ?_
    refine W.block ?_
    refine W.seq ?_
    refine W.seq ?_
    obtain ⟨b5, o6, rfl, _⟩ := hs.get (marks32_get (k := k) (n := n) (i := i) (by omega))
    refine W.region ?_
    refine L.v (o_move (v := (.slice (some ⟨b5, o6, none⟩) n c)) rfl) ?_
    refine L.v (o_move (v := (.int .i64 (i : Int))) rfl) ?_
    refine L.v (o_indexAddr (b := b5) (off := o6) (n := n) (c := c) i Try.underlying22 Try.sizeOf23 rfl rfl (by omega)) ?_
    refine L.v (o_load (b := b5) (off := o6 + i * 1) (v := (.float .f32 (FloatKind.nearest .f32 (k + (i : Int))))) Try.isAgg23 rfl (hs.marks (by omega)) rfl) ?_
    refine L.v (o_move (v := (.int .i64 (k + (i : Int)))) rfl) ?_
    refine L.v (o_cvIF (a := k + (i : Int)) (by rw [Try.underlying3]; rfl) Try.underlying23 rfl) ?_
    refine L.v (o_fcmp (k := .f32) (a := FloatKind.nearest .f32 (k + (i : Int))) (b := FloatKind.nearest .f32 (k + (i : Int))) rfl rfl rfl rfl) ?_
    refine L.nil ?_
    refine W.condF (b := fcmp .neq .f32 (FloatKind.nearest .f32 (k + (i : Int))) (FloatKind.nearest .f32 (k + (i : Int)))) rfl (fcmp_neq_self (k := .f32) (a := FloatKind.nearest .f32 (k + (i : Int))) (nearest_num .f32 (k + (i : Int)))) ?_
    refine W.skip ?_
    refine W.region ?_
    refine L.v (o_move (v := (.int .i64 (k + (i : Int)))) rfl) ?_
    refine L.v (o_iadd (a := k + (i : Int)) (b := 1) (c := k + ((i + 1 : Nat) : Int)) rfl rfl (by rw [IntWalk.i64_in _ (by omega)]; try (push_cast; omega))) ?_
    refine L.v (o_assign (v := (.int .i64 (k + ((i + 1 : Nat) : Int)))) rfl) ?_
    refine L.nil ?_
    refine W.region ?_
    refine L.v (o_move (v := (.int .i64 (i : Int))) rfl) ?_
    refine L.v (o_iadd (a := (i : Int)) (b := 1) (c := ((i + 1 : Nat) : Int)) rfl rfl (by rw [IntWalk.i64_in _ (by omega)]; try (push_cast; omega))) ?_
    refine L.v (o_assign (v := (.int .i64 (((i + 1 : Nat) : Int)))) rfl) ?_
    refine L.nil ?_
    exact ⟨_, (by omega), i + 1, rfl, (by omega), ⟨rfl, rfl, rfl, trivial⟩, rfl⟩
  ·
    have a7 : ¬ (((i : Int) : Int) < (n : Int)) := of_decide_eq_false q3
    refine W.exit ?_
    refine W.seq ?_
    refine W.region ?_
    refine L.v (o_move (v := (.int .i64 (k + (i : Int)))) rfl) ?_
    refine L.v (o_assign (v := (.int .i64 (k + (i : Int)))) rfl) ?_
    refine L.nil ?_
    refine W.ret ?_
    obtain rfl : i = n := by omega
    exact RetK.one _ (.int .i64 (k + (i : Int))) rfl rfl (Ext.refl _) ⟨rfl, rfl⟩

end Go.Proofs.Ytakeanehgfbbaaa.En
