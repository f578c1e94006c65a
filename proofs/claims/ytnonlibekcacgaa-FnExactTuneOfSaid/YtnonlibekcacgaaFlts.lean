/- The laws' own helpers over lists of numbers. -/
import Derived.Test.YtnonlibekcacgaaEngW
import Derived.Test.YtnonlibekcacgaaLib
import Derived.Test.YtnonlibekcacgaaRows
namespace Go.Proofs.Ytnonlibekcacgaa.En
open Go
set_option linter.unusedVariables false
set_option maxRecDepth 100000
theorem toF32S {w0 : World} {σ : Sg} (p : Option Addr) (c : Nat) (xs : List Nat) (hs : Sl σ 1 p (xs.map fl)) (hn : xs.length ≤ 1048576) :
    Fn Try.prog w0 31 [(.slice p xs.length c)] σ (fun u s => ∃ p, u = .slice p xs.length xs.length ∧ Fsl w0 σ 1 (xs.map fl) p s) := by
  refine Fn.of_W 22 Try.func31 rfl Try.ntmps31 rfl ?_
  refine W.seq ?_
  refine W.region ?_
  refine L.v (o_assign (v := (.slice none 0 0)) rfl) ?_
  refine L.nil ?_
  refine W.seq ?_
  refine W.region ?_
  refine L.v (o_move (v := (.slice p xs.length c)) rfl) ?_
  refine L.v (o_len (p := p) (n := xs.length) (c := c) Try.underlying32 rfl) ?_
  refine L.cons (o_makeSlice (ik := .i64) (info := Try.t24) (z := .float .f32 0) xs.length Try.underlying32 Try.type24 rfl rfl (by show 4 * _ ≤ _; omega) (by omega)) ?_
  rintro _ _ ⟨b, hf, hw, rfl, rfl⟩
  rw [show (madeCells ((Value.float .f32 0).cells) (xs.length * Try.t24.size)).toList = List.replicate xs.length (.float .f32 0) by show (madeCells #[_] (xs.length * 1)).toList = _; rw [Nat.mul_one, made_one]]
  refine L.v (o_assign (v := (.slice (some ⟨b, 0, none⟩) xs.length xs.length)) rfl) ?_
  refine L.nil ?_
  refine W.seq ?_
  refine W.seq ?_
  refine W.region ?_
  refine L.v (o_assign (v := (.int .i64 0)) rfl) ?_
  refine L.nil ?_
  refine W.block ?_
  refine W.loop (fun nn tt ss => ∃ (i : Nat), nn = xs.length - i ∧ (i ≤ xs.length) ∧ FrOk tt [(0, (.slice p xs.length c)), (3, (.slice (some ⟨b, 0, none⟩) xs.length xs.length)), (4, (.int .i64 (i : Int)))] ∧ sg σ b (24, (xs.take i).map (Value.float .f32) ++ List.replicate (xs.length - i) (.float .f32 0)) = ss) _ ⟨0, rfl, (by omega), ⟨rfl, rfl, rfl, trivial⟩, (by simp)⟩ ?_
  rintro _ t1 _ ⟨i, rfl, hi, f2, rfl⟩
  rw [← frame_ok f2]
  show W _ _ _ _ _ (upd (upd (upd t1 0 (.slice p xs.length c)) 3 (.slice (some ⟨b, 0, none⟩) xs.length xs.length)) 4 (.int .i64 (i : Int))) _
  refine W.seq ?_
  refine W.seq ?_
  refine W.region ?_
  refine L.v (o_move (v := (.int .i64 (i : Int))) rfl) ?_
  refine L.v (o_move (v := (.slice p xs.length c)) rfl) ?_
  refine L.v (o_len (p := p) (n := xs.length) (c := c) Try.underlying32 rfl) ?_
  refine L.v (o_ilss (a := (i : Int)) (b := (xs.length : Int)) rfl rfl rfl) ?_
  refine L.nil ?_
  refine W.cond (b := decide (((i : Int) : Int) < (xs.length : Int))) rfl (fun q3 => ?_) (fun q3 => ?_)
  ·
    have a4 : ((i : Int) : Int) < (xs.length : Int) := of_decide_eq_true q3
    refine W.skip ?_
    refine W.seq ?_
    refine W.block ?_
    have hs' : Sl (sg σ b (24, (xs.take i).map (Value.float .f32) ++ List.replicate (xs.length - i) (.float .f32 0))) 1 p (xs.map fl) := hs.ext ((Ext.refl _).sg hf)
    obtain ⟨b5, o6, rfl, _⟩ := hs'.elem i (by omega) 0
    refine W.region ?_
    refine L.v (o_move (v := (.slice (some ⟨b, 0, none⟩) xs.length xs.length)) rfl) ?_
    refine L.v (o_move (v := (.int .i64 (i : Int))) rfl) ?_
    refine L.v (o_move (v := (.slice (some ⟨b5, o6, none⟩) xs.length c)) rfl) ?_
    refine L.v (o_move (v := (.int .i64 (i : Int))) rfl) ?_
    refine L.v (o_indexAddr (b := b5) (off := o6) (n := xs.length) (c := c) i Try.underlying32 Try.sizeOf24 rfl rfl (by omega)) ?_
    refine L.v (o_load (b := b5) (off := o6 + i * 1) (v := (.float .f32 (xs.getD i 0))) Try.isAgg24 rfl (Rds.fst (Sl.at hs' i (by omega) 0)) rfl) ?_
    refine L.v (o_indexAddr (b := b) (off := 0) (n := xs.length) (c := xs.length) i Try.underlying32 Try.sizeOf24 rfl rfl (by omega)) ?_
    refine L.cons0 (o_store (b := b) (off := 0 + i * 1) (v := (.float .f32 (xs.getD i 0))) Try.sizeOf24 rfl rfl rfl (sg_eq _ _ _) (by simp; omega) hw) ?_
    rintro _ _ ⟨rfl, rfl⟩
    rw [sg_sg, show 0 + i * 1 = i by omega, fill_step (Value.float .f32) (.float .f32 0) xs i (by omega) 0]
    refine L.nil ?_
    refine W.region ?_
    refine L.v (o_move (v := (.int .i64 (i : Int))) rfl) ?_
    refine L.v (o_iadd (a := (i : Int)) (b := 1) (c := ((i + 1 : Nat) : Int)) rfl rfl (by rw [IntWalk.i64_in _ (by omega)]; try omega)) ?_
    refine L.v (o_assign (v := (.int .i64 (((i + 1 : Nat) : Int)))) rfl) ?_
    refine L.nil ?_
    exact ⟨_, (by omega), i + 1, rfl, (by omega), ⟨rfl, rfl, rfl, trivial⟩, rfl⟩
  ·
    have a7 : ¬ (((i : Int) : Int) < (xs.length : Int)) := of_decide_eq_false q3
    refine W.exit ?_
    refine W.seq ?_
    refine W.region ?_
    refine L.v (o_move (v := (.slice (some ⟨b, 0, none⟩) xs.length xs.length)) rfl) ?_
    refine L.v (o_assign (v := (.slice (some ⟨b, 0, none⟩) xs.length xs.length)) rfl) ?_
    refine L.nil ?_
    refine W.ret ?_
    obtain rfl : i = xs.length := by omega
    rw [show (xs.take xs.length).map (Value.float .f32) ++ List.replicate (xs.length - xs.length) (.float .f32 0) = (xs.map fl).flatten by simp [flat_fl]]
    exact RetK.one _ (.slice (some ⟨b, 0, none⟩) xs.length xs.length) rfl rfl (Ext.refl _) ⟨_, rfl, Fsl.of_newB hf hw (by simp [fl])⟩

theorem eqF32S {w0 : World} {σ : Sg} (p q : Option Addr) (c d : Nat) (xs : List Nat) (hs : Sl σ 1 p (xs.map fl)) (hq : Sl σ 1 q (xs.map fl)) (hn : xs.length ≤ 1048576) :
    FnV Try.prog w0 17 [(.slice p xs.length c), (.slice q xs.length d)] σ (.bool true) := by
  unfold FnV
  refine Fn.of_W 29 Try.func17 rfl Try.ntmps17 rfl ?_
  refine W.seq ?_
  refine W.region ?_
  refine L.v (o_assign (v := (.bool false)) rfl) ?_
  refine L.nil ?_
  refine W.seq ?_
  refine W.seq ?_
  refine W.region ?_
  refine L.v (o_move (v := (.slice p xs.length c)) rfl) ?_
  refine L.v (o_len (p := p) (n := xs.length) (c := c) Try.underlying32 rfl) ?_
  refine L.v (o_move (v := (.slice q xs.length d)) rfl) ?_
  refine L.v (o_len (p := q) (n := xs.length) (c := d) Try.underlying32 rfl) ?_
  refine L.v (o_ineq (a := (xs.length : Int)) (b := (xs.length : Int)) (c := false) rfl rfl (by simp)) ?_
  refine L.nil ?_
  refine W.condF (b := false) rfl rfl ?_
  refine W.skip ?_
  refine W.seq ?_
  refine W.seq ?_
  refine W.region ?_
  refine L.v (o_assign (v := (.int .i64 0)) rfl) ?_
  refine L.nil ?_
  refine W.block ?_
  refine W.loop (fun nn tt ss => ∃ (i : Nat), nn = xs.length - i ∧ (i ≤ xs.length) ∧ FrOk tt [(0, (.slice p xs.length c)), (1, (.slice q xs.length d)), (5, (.int .i64 (i : Int)))] ∧ σ = ss) _ ⟨0, rfl, (by omega), ⟨rfl, rfl, rfl, trivial⟩, rfl⟩ ?_
  rintro _ t1 _ ⟨i, rfl, hi, f2, rfl⟩
  rw [← frame_ok f2]
  show W _ _ _ _ _ (upd (upd (upd t1 0 (.slice p xs.length c)) 1 (.slice q xs.length d)) 5 (.int .i64 (i : Int))) _
  refine W.seq ?_
  refine W.seq ?_
  refine W.region ?_
  refine L.v (o_move (v := (.int .i64 (i : Int))) rfl) ?_
  refine L.v (o_move (v := (.slice p xs.length c)) rfl) ?_
  refine L.v (o_len (p := p) (n := xs.length) (c := c) Try.underlying32 rfl) ?_
  refine L.v (o_ilss (a := (i : Int)) (b := (xs.length : Int)) rfl rfl rfl) ?_
  refine L.nil ?_
  refine W.cond (b := decide (((i : Int) : Int) < (xs.length : Int))) rfl (fun q3 => ?_) (fun q3 => ?_)
  ·
    have a4 : ((i : Int) : Int) < (xs.length : Int) := of_decide_eq_true q3
    refine W.skip ?_
    refine W.seq ?_
    refine W.block ?_
    refine W.seq ?_
    obtain ⟨b5, o6, rfl, _⟩ := hs.elem i (by omega) 0
    obtain ⟨b7, o8, rfl, _⟩ := hq.elem i (by omega) 0
    refine W.draw [true, true, true, true, true, true, true, true, true, true, true, true] (fun s => s = σ) (by kernel_rfl) (by kernel_rfl) ?_
    refine DL.v (fun _ hD => by cases hD; exact o_move (v := (.slice (some ⟨b5, o6, none⟩) xs.length c)) rfl) ?_
    refine DL.v (fun _ hD => by cases hD; exact o_move (v := (.int .i64 (i : Int))) rfl) ?_
    refine DL.v (fun _ hD => by cases hD; exact o_indexAddr (b := b5) (off := o6) (n := xs.length) (c := c) i Try.underlying32 Try.sizeOf24 rfl rfl (by omega)) ?_
    refine DL.v (fun _ hD => by cases hD; exact o_load (b := b5) (off := o6 + i * 1) (v := (.float .f32 (xs.getD i 0))) Try.isAgg24 rfl (Rds.fst (Sl.at hs i (by omega) 0)) rfl) ?_
    refine DL.v (fun _ hD => by cases hD; exact o_cvFF (s := .f32) (d := .f64) (a := xs.getD i 0) (by rw [Try.underlying24]; rfl) Try.underlying30 rfl (okw (xs.getD i 0))) ?_
    refine DL.v (fun _ hD => by cases hD; exact o_move (v := (.slice (some ⟨b7, o8, none⟩) xs.length d)) rfl) ?_
    refine DL.v (fun _ hD => by cases hD; exact o_move (v := (.int .i64 (i : Int))) rfl) ?_
    refine DL.v (fun _ hD => by cases hD; exact o_indexAddr (b := b7) (off := o8) (n := xs.length) (c := d) i Try.underlying32 Try.sizeOf24 rfl rfl (by omega)) ?_
    refine DL.v (fun _ hD => by cases hD; exact o_load (b := b7) (off := o8 + i * 1) (v := (.float .f32 (xs.getD i 0))) Try.isAgg24 rfl (Rds.fst (Sl.at hq i (by omega) 0)) rfl) ?_
    refine DL.v (fun _ hD => by cases hD; exact o_cvFF (s := .f32) (d := .f64) (a := xs.getD i 0) (by rw [Try.underlying24]; rfl) Try.underlying30 rfl (okw (xs.getD i 0))) ?_
    refine DL.v (v := (.bool true)) (fun _ hD => by cases hD; exact op_call [(.float .f64 (cvt .f32 .f64 (xs.getD i 0))), (.float .f64 (cvt .f32 .f64 (xs.getD i 0)))] Try.call14 rfl (sameFloat_c (cvt .f32 .f64 (xs.getD i 0)))) ?_
    refine DL.v (fun _ hD => by cases hD; exact o_not (b := true) (c := false) rfl rfl) ?_
    refine DL.nil rfl ?_
    refine W.condF (b := false) rfl rfl ?_
    refine W.skip ?_
    refine W.region ?_
    refine L.v (o_move (v := (.int .i64 (i : Int))) rfl) ?_
    refine L.v (o_iadd (a := (i : Int)) (b := 1) (c := ((i + 1 : Nat) : Int)) rfl rfl (by rw [IntWalk.i64_in _ (by omega)]; try omega)) ?_
    refine L.v (o_assign (v := (.int .i64 (((i + 1 : Nat) : Int)))) rfl) ?_
    refine L.nil ?_
    exact ⟨_, (by omega), i + 1, rfl, (by omega), ⟨rfl, rfl, rfl, trivial⟩, rfl⟩
  ·
    have a9 : ¬ (((i : Int) : Int) < (xs.length : Int)) := of_decide_eq_false q3
    refine W.exit ?_
    refine W.seq ?_
    refine W.region ?_
    refine L.v (o_assign (v := (.bool true)) rfl) ?_
    refine L.nil ?_
    refine W.ret ?_
    exact RetK.one σ (.bool true) rfl rfl (Ext.refl _) ⟨by first | rfl | (exfalso; omega) | (exact absurd rfl (by assumption)), rfl⟩

theorem markB {w0 : World} {σ : Sg} (b e n c : Nat) (cs : List Value) (k : Int) (hb : σ b = some (e, cs)) (hw : w0.heap.size ≤ b) (hn : n ≤ cs.length) (hm : n ≤ 1048576) (hk : 0 ≤ k ∧ k ≤ 1099511627776) :
    Fn Try.prog w0 18 [(.slice (some ⟨b, 0, none⟩) n c), (.int .i64 k)] σ (fun u s => u = .int .i64 (k + n) ∧ s = sg σ b (e, mkc (mark32 k) cs n)) := by
  refine Fn.of_W 20 Try.func18 rfl Try.ntmps18 rfl ?_
  refine W.seq ?_
  refine W.region ?_
  refine L.v (o_assign (v := (.int .i64 0)) rfl) ?_
  refine L.nil ?_
  refine W.seq ?_
  refine W.seq ?_
  refine W.region ?_
  refine L.v (o_assign (v := (.int .i64 0)) rfl) ?_
  refine L.nil ?_
  refine W.block ?_
  refine W.loop (fun nn tt ss => ∃ (i : Nat), nn = n - i ∧ (i ≤ n) ∧ FrOk tt [(0, (.slice (some ⟨b, 0, none⟩) n c)), (1, (.int .i64 (k + (i : Int)))), (5, (.int .i64 (i : Int)))] ∧ sg σ b (e, mkc (mark32 k) cs i) = ss) _ ⟨0, rfl, (by omega), ⟨rfl, (by show Value.int .i64 k = _; simp), rfl, trivial⟩, sg_same hb⟩ ?_
  rintro _ t1 _ ⟨i, rfl, hi, f2, rfl⟩
  rw [← frame_ok f2]
  show W _ _ _ _ _ (upd (upd (upd t1 0 (.slice (some ⟨b, 0, none⟩) n c)) 1 (.int .i64 (k + (i : Int)))) 5 (.int .i64 (i : Int))) _
  refine W.seq ?_
  refine W.seq ?_
  refine W.region ?_
  refine L.v (o_move (v := (.int .i64 (i : Int))) rfl) ?_
  refine L.v (o_move (v := (.slice (some ⟨b, 0, none⟩) n c)) rfl) ?_
  refine L.v (o_len (p := (some ⟨b, 0, none⟩)) (n := n) (c := c) Try.underlying32 rfl) ?_
  refine L.v (o_ilss (a := (i : Int)) (b := (n : Int)) rfl rfl rfl) ?_
  refine L.nil ?_
  refine W.cond (b := decide (((i : Int) : Int) < (n : Int))) rfl (fun q3 => ?_) (fun q3 => ?_)
  ·
    have a4 : ((i : Int) : Int) < (n : Int) := of_decide_eq_true q3
    refine W.skip ?_
    refine W.seq ?_
    refine W.block ?_
    refine W.seq ?_
    refine W.region ?_
    refine L.v (o_move (v := (.slice (some ⟨b, 0, none⟩) n c)) rfl) ?_
    refine L.v (o_move (v := (.int .i64 (i : Int))) rfl) ?_
    refine L.v (o_move (v := (.int .i64 (k + (i : Int)))) rfl) ?_
    refine L.v (o_cvIF (a := k + (i : Int)) (by rw [Try.underlying3]; rfl) Try.underlying24 rfl) ?_
    refine L.v (o_indexAddr (b := b) (off := 0) (n := n) (c := c) i Try.underlying32 Try.sizeOf24 rfl rfl (by omega)) ?_
    refine L.cons0 (o_store (b := b) (off := 0 + i * 1) (v := (.float .f32 (FloatKind.nearest .f32 (k + (i : Int))))) Try.sizeOf24 rfl rfl rfl (sg_eq _ _ _) (by rw [mkc_length]; omega) hw) ?_
    rintro _ _ ⟨rfl, rfl⟩
    rw [sg_sg, show (mkc (mark32 k) cs i).set (0 + i * 1) (.float .f32 (FloatKind.nearest .f32 (k + (i : Int)))) = mkc (mark32 k) cs (i + 1) by rw [show 0 + i * 1 = i by omega]; rfl]
    refine L.nil ?_
    refine W.region ?_
    refine L.v (o_move (v := (.int .i64 (k + (i : Int)))) rfl) ?_
    refine L.v (o_iadd (a := k + (i : Int)) (b := 1) (c := k + ((i + 1 : Nat) : Int)) rfl rfl (by rw [IntWalk.i64_in _ (by omega)]; try (push_cast; omega))) ?_
    refine L.v (o_assign (v := (.int .i64 (k + ((i + 1 : Nat) : Int)))) rfl) ?_
    refine L.nil ?_
    refine W.region ?_
    refine L.v (o_move (v := (.int .i64 (i : Int))) rfl) ?_
    refine L.v (o_iadd (a := (i : Int)) (b := 1) (c := ((i + 1 : Nat) : Int)) rfl rfl (by rw [IntWalk.i64_in _ (by omega)]; try (push_cast; omega))) ?_
    refine L.v (o_assign (v := (.int .i64 (((i + 1 : Nat) : Int)))) rfl) ?_
    refine L.nil ?_
    exact ⟨_, (by omega), i + 1, rfl, (by omega), ⟨rfl, rfl, rfl, trivial⟩, rfl⟩
  ·
    have a5 : ¬ (((i : Int) : Int) < (n : Int)) := of_decide_eq_false q3
    refine W.exit ?_
    refine W.seq ?_
    refine W.region ?_
    refine L.v (o_move (v := (.int .i64 (k + (i : Int)))) rfl) ?_
    refine L.v (o_assign (v := (.int .i64 (k + (i : Int)))) rfl) ?_
    refine L.nil ?_
    refine W.ret ?_
    obtain rfl : i = n := by omega
    exact RetK.one _ (.int .i64 (k + (i : Int))) rfl rfl (Ext.refl _) ⟨rfl, rfl⟩

theorem markE {w0 : World} {σ : Sg} (p : Option Addr) (c : Nat) (k : Int) :
    Fn Try.prog w0 18 [(.slice p 0 c), (.int .i64 k)] σ (fun u s => u = .int .i64 (k + (0 : Nat)) ∧ s = σ) := by
  refine Fn.of_W 20 Try.func18 rfl Try.ntmps18 rfl ?_
  refine W.seq ?_
  refine W.region ?_
  refine L.v (o_assign (v := (.int .i64 0)) rfl) ?_
  refine L.nil ?_
  refine W.seq ?_
  refine W.seq ?_
  refine W.region ?_
  refine L.v (o_assign (v := (.int .i64 0)) rfl) ?_
  refine L.nil ?_
  refine W.block ?_
  refine W.loop (fun nn tt ss => ∃ (i : Nat), nn = 0 ∧ (i = 0) ∧ FrOk tt [(0, (.slice p 0 c)), (1, (.int .i64 k)), (5, (.int .i64 (i : Int)))] ∧ σ = ss) _ ⟨0, rfl, (by omega), ⟨rfl, rfl, rfl, trivial⟩, rfl⟩ ?_
  rintro _ t1 _ ⟨i, rfl, hi, f2, rfl⟩
  rw [← frame_ok f2]
  show W _ _ _ _ _ (upd (upd (upd t1 0 (.slice p 0 c)) 1 (.int .i64 k)) 5 (.int .i64 (i : Int))) _
  refine W.seq ?_
  refine W.seq ?_
  refine W.region ?_
  refine L.v (o_move (v := (.int .i64 (i : Int))) rfl) ?_
  refine L.v (o_move (v := (.slice p 0 c)) rfl) ?_
  refine L.v (o_len (p := p) (n := 0) (c := c) Try.underlying32 rfl) ?_
  refine L.v (o_ilss (a := (i : Int)) (b := 0) rfl rfl rfl) ?_
  refine L.nil ?_
  refine W.cond (b := decide (((i : Int) : Int) < 0)) rfl (fun q3 => ?_) (fun q3 => ?_)
  ·
    have a4 : ((i : Int) : Int) < 0 := of_decide_eq_true q3
    exact absurd (of_decide_eq_true q3) (by omega)
  ·
    have a5 : ¬ (((i : Int) : Int) < 0) := of_decide_eq_false q3
    refine W.exit ?_
    refine W.seq ?_
    refine W.region ?_
    refine L.v (o_move (v := (.int .i64 k)) rfl) ?_
    refine L.v (o_assign (v := (.int .i64 k)) rfl) ?_
    refine L.nil ?_
    refine W.ret ?_
    exact RetK.one _ (.int .i64 k) rfl rfl (Ext.refl _) ⟨by simp, rfl⟩

theorem markF {w0 : World} {σ : Sg} (p : Option Addr) (n c : Nat) (k : Int) (ho : Mut w0 σ n p) (hm : n ≤ 1048576) (hk : 0 ≤ k ∧ k ≤ 1099511627776) :
    Fn Try.prog w0 18 [.slice p n c, .int .i64 k] σ (fun u s => u = .int .i64 (k + n) ∧ Mkd σ s n p ∧ Sl s 1 p (marks32 k n)) := by
  by_cases h0 : n = 0
  · subst h0
    exact (markE p c k).mono fun u s ⟨h1, h2⟩ => ⟨h1, .inl ⟨rfl, h2⟩, .inl rfl⟩
  · rcases ho with ho | ⟨b, e, cs, rfl, hw, hb, hl⟩
    · exact absurd ho h0
    · refine (markB b e n c cs k hb hw hl hm hk).mono fun u s ⟨h1, h2⟩ => ⟨h1, .inr ⟨h0, b, rfl, ?_⟩, ?_⟩
      · rw [h2]; exact But.sg
      · exact Sl.of_mkc (by rw [h2]; exact sg_eq _ _ _) hl

theorem heldF {w0 : World} {σ : Sg} (p : Option Addr) (n c : Nat) (k : Int) (hs : Sl σ 1 p (marks32 k n)) (hm : n ≤ 1048576) (hk : 0 ≤ k ∧ k ≤ 1099511627776) :
    FnV Try.prog w0 19 [(.slice p n c), (.int .i64 k)] σ (.int .i64 (k + n)) := by
  unfold FnV
  refine Fn.of_W 22 Try.func19 rfl Try.ntmps19 rfl ?_
  refine W.seq ?_
  refine W.region ?_
  refine L.v (o_assign (v := (.int .i64 0)) rfl) ?_
  refine L.nil ?_
  refine W.seq ?_
  refine W.seq ?_
  refine W.region ?_
  refine L.v (o_assign (v := (.int .i64 0)) rfl) ?_
  refine L.nil ?_
  refine W.block ?_
  refine W.loop (fun nn tt ss => ∃ (i : Nat), nn = n - i ∧ (i ≤ n) ∧ FrOk tt [(0, (.slice p n c)), (1, (.int .i64 (k + (i : Int)))), (5, (.int .i64 (i : Int)))] ∧ σ = ss) _ ⟨0, rfl, (by omega), ⟨rfl, (by show Value.int .i64 k = _; simp), rfl, trivial⟩, rfl⟩ ?_
  rintro _ t1 _ ⟨i, rfl, hi, f2, rfl⟩
  rw [← frame_ok f2]
  show W _ _ _ _ _ (upd (upd (upd t1 0 (.slice p n c)) 1 (.int .i64 (k + (i : Int)))) 5 (.int .i64 (i : Int))) _
  refine W.seq ?_
  refine W.seq ?_
  refine W.region ?_
  refine L.v (o_move (v := (.int .i64 (i : Int))) rfl) ?_
  refine L.v (o_move (v := (.slice p n c)) rfl) ?_
  refine L.v (o_len (p := p) (n := n) (c := c) Try.underlying32 rfl) ?_
  refine L.v (o_ilss (a := (i : Int)) (b := (n : Int)) rfl rfl rfl) ?_
  refine L.nil ?_
  refine W.cond (b := decide (((i : Int) : Int) < (n : Int))) rfl (fun q3 => ?_) (fun q3 => ?_)
  ·
    have a4 : ((i : Int) : Int) < (n : Int) := of_decide_eq_true q3
    refine W.skip ?_
    refine W.seq ?_
    refine W.block ?_
    refine W.seq ?_
    refine W.seq ?_
    obtain ⟨b5, o6, rfl, _⟩ := hs.get (marks32_get (k := k) (n := n) (i := i) (by omega))
    refine W.region ?_
    refine L.v (o_move (v := (.slice (some ⟨b5, o6, none⟩) n c)) rfl) ?_
    refine L.v (o_move (v := (.int .i64 (i : Int))) rfl) ?_
    refine L.v (o_indexAddr (b := b5) (off := o6) (n := n) (c := c) i Try.underlying32 Try.sizeOf24 rfl rfl (by omega)) ?_
    refine L.v (o_load (b := b5) (off := o6 + i * 1) (v := (.float .f32 (FloatKind.nearest .f32 (k + (i : Int))))) Try.isAgg24 rfl (hs.marks (by omega)) rfl) ?_
    refine L.v (o_move (v := (.int .i64 (k + (i : Int)))) rfl) ?_
    refine L.v (o_cvIF (a := k + (i : Int)) (by rw [Try.underlying3]; rfl) Try.underlying24 rfl) ?_
    refine L.v (o_fcmp (k := .f32) (a := FloatKind.nearest .f32 (k + (i : Int))) (b := FloatKind.nearest .f32 (k + (i : Int))) rfl rfl rfl rfl) ?_
    refine L.nil ?_
    refine W.condF (b := fcmp .neq .f32 (FloatKind.nearest .f32 (k + (i : Int))) (FloatKind.nearest .f32 (k + (i : Int)))) rfl (fcmp_neq_self (k := .f32) (a := FloatKind.nearest .f32 (k + (i : Int))) (nearest_num .f32 (k + (i : Int)))) ?_
    refine W.skip ?_
    refine W.region ?_
    refine L.v (o_move (v := (.int .i64 (k + (i : Int)))) rfl) ?_
    refine L.v (o_iadd (a := k + (i : Int)) (b := 1) (c := k + ((i + 1 : Nat) : Int)) rfl rfl (by rw [IntWalk.i64_in _ (by omega)]; try (push_cast; omega))) ?_
    refine L.v (o_assign (v := (.int .i64 (k + ((i + 1 : Nat) : Int)))) rfl) ?_
    refine L.nil ?_
    refine W.region ?_
    refine L.v (o_move (v := (.int .i64 (i : Int))) rfl) ?_
    refine L.v (o_iadd (a := (i : Int)) (b := 1) (c := ((i + 1 : Nat) : Int)) rfl rfl (by rw [IntWalk.i64_in _ (by omega)]; try (push_cast; omega))) ?_
    refine L.v (o_assign (v := (.int .i64 (((i + 1 : Nat) : Int)))) rfl) ?_
    refine L.nil ?_
    exact ⟨_, (by omega), i + 1, rfl, (by omega), ⟨rfl, rfl, rfl, trivial⟩, rfl⟩
  ·
    have a7 : ¬ (((i : Int) : Int) < (n : Int)) := of_decide_eq_false q3
    refine W.exit ?_
    refine W.seq ?_
    refine W.region ?_
    refine L.v (o_move (v := (.int .i64 (k + (i : Int)))) rfl) ?_
    refine L.v (o_assign (v := (.int .i64 (k + (i : Int)))) rfl) ?_
    refine L.nil ?_
    refine W.ret ?_
    obtain rfl : i = n := by omega
    exact RetK.one _ (.int .i64 (k + (i : Int))) rfl rfl (Ext.refl _) ⟨rfl, rfl⟩

end Go.Proofs.Ytnonlibekcacgaa.En
