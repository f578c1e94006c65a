/- RowsFor's law: what the call gives, for every grid and every count of workers. -/
import Derived.Test.YtpgmpjejfpmnoaaRowsForW
import Derived.Test.YtpgmpjejfpmnoaaRows
namespace Go.Proofs.Ytpgmpjejfpmnoaa.En
open Go
set_option linter.unusedVariables false
theorem rowsF_le (gx gy n : Int) : (rowsF gx gy n).length ≤ 1024 := by
  by_cases h : rowsC gx gy n
  · rw [rowsF, if_pos h, rowsN_len]; unfold rowsC at h; omega
  · rw [rowsF, if_neg h]; simp
theorem InB.ext {s s' : Sg} {bs : List Nat} {rows : List (Int × Int)} (h : InB s bs rows) (hx : Ext s s') : InB s' bs rows := fun i hi => hx _ _ (h i hi)
theorem LS.lowm {w0 : World} {σ s : Sg} {p : Option Addr} {bs : List Nat} {rows : List (Int × Int)} (h : LS w0 σ s p bs rows) {b : Nat} (hb : b ∈ bs) : σ b = .none := by
  obtain ⟨j, hj, e⟩ := mem_getD hb
  rw [← e]; exact (h.low j hj).2
theorem cell_apart {s0 s s' : Sg} {bs : List Nat} {b : Nat} {x} (h0 : s0 b = some x) (hx : Ext s0 s) (hl : ∀ b ∈ bs, s0 b = .none) (hk : ∀ x, x ∉ bs → s' x = s x) : s' b = some x := by
  rw [hk b fun hm => by rw [hl b hm] at h0; cases h0]; exact hx _ _ h0
theorem Sl.apart_new {s0 s s' : Sg} {k : Nat} {p : Option Addr} {rows : List (List Value)} {bs : List Nat} (h0 : Sl s0 k p rows) (hx : Ext s0 s) (hl : ∀ b ∈ bs, s0 b = .none) (hk : ∀ x, x ∉ bs → s' x = s x) : Sl s' k p rows := by
  rcases h0 with h | ⟨b, off, rfl, h⟩
  · exact .inl h
  · refine .inr ⟨b, off, rfl, fun i r hr j v hj => ?_⟩
    obtain ⟨e, cs, h1, h2⟩ := h i r hr j v hj
    exact ⟨e, cs, cell_apart h1 hx hl hk, h2⟩
theorem InB.apart_new {s0 s s' : Sg} {bs cs : List Nat} {rows : List (Int × Int)} (h0 : InB s0 cs rows) (hx : Ext s0 s) (hl : ∀ b ∈ bs, s0 b = .none) (hk : ∀ x, x ∉ bs → s' x = s x) : InB s' cs rows := fun i hi => cell_apart (h0 i hi) hx hl hk
theorem lawRows {w0 : World} {σ : Sg} (gx gy n : Int) (bn : -9223372036854775808 ≤ n ∧ n ≤ 9223372036854775807) :
    Fn Try.prog w0 4 [(.agg #[(.int .i64 gx), (.int .i64 gy)]), (.int .i64 n)] σ (fun u _ => u = .bool true) := by
  refine Fn.of_W 71 Try.func4 rfl Try.ntmps4 rfl ?_
  refine W.seq ?_
  refine W.region ?_
  refine L.cons (o_box (v := (.agg #[(.int .i64 gx), (.int .i64 gy)])) rfl rfl [(.int .i64 gx), (.int .i64 gy)] rfl) ?_
  rintro _ _ ⟨b1, hf2, hw3, rfl, rfl⟩
  have hb6 : (sg σ b1 (23, [(.int .i64 gx), (.int .i64 gy)])) b1 = some (23, [(.int .i64 gx), (.int .i64 gy)]) := sg_eq _ _ _
  have hx5 : Ext σ (sg σ b1 (23, [(.int .i64 gx), (.int .i64 gy)])) := (Ext.refl _).sg hf2
  have ehx5 := Ext.trans (Ext.refl _) hx5
  generalize hgs4 : sg σ b1 (23, [(.int .i64 gx), (.int .i64 gy)]) = s4 at *
  clear hgs4
  refine L.v (o_assign (v := (.bool false)) rfl) ?_
  refine L.nil ?_
  refine W.seq ?_
  refine W.region ?_
  refine L.v (o_loads (b := b1) (off := 0) (vs := [(.int .i64 gx), (.int .i64 gy)]) Try.isAgg23 Try.sizeOf23 rfl rfl (Rds.of hb6 (by intro j v hj; simpa using hj))) ?_
  refine L.v (v := (.agg #[(.int .i64 gx), (.int .i64 gy)])) (op_call [(.agg #[(.int .i64 gx), (.int .i64 gy)])] Try.call11 rfl (toGrid_c gx gy)) ?_
  refine L.v (o_move (v := (.int .i64 n)) rfl) ?_
  refine L.cons (op_call [(.agg #[(.int .i64 gx), (.int .i64 gy)]), (.int .i64 n)] Try.call17 rfl (specRows gx gy n)) ?_
  rintro _ s11 ⟨p7, c8, bs9, rfl, hl10⟩
  have hb12 := hl10.ext _ _ hb6
  refine L.v (o_move (v := (.tuple #[(.slice p7 ((rowsF gx gy n).length) c8), (.bool (rowsB gx gy n))])) rfl) ?_
  refine L.v (o_extract (vs := #[(.slice p7 ((rowsF gx gy n).length) c8), (.bool (rowsB gx gy n))]) (v := (.slice p7 ((rowsF gx gy n).length) c8)) rfl rfl rfl) ?_
  refine L.v (o_extract (vs := #[(.slice p7 ((rowsF gx gy n).length) c8), (.bool (rowsB gx gy n))]) (v := (.bool (rowsB gx gy n))) rfl rfl rfl) ?_
  refine L.v (o_assign (v := (.slice p7 ((rowsF gx gy n).length) c8)) rfl) ?_
  refine L.v (o_assign (v := (.bool (rowsB gx gy n))) rfl) ?_
  refine L.nil ?_
  refine W.seq ?_
  refine W.region ?_
  refine L.v (o_loads (b := b1) (off := 0) (vs := [(.int .i64 gx), (.int .i64 gy)]) Try.isAgg23 Try.sizeOf23 rfl rfl (Rds.of hb12 (by intro j v hj; simpa using hj))) ?_
  refine L.v (v := (.agg #[(.int .i64 gx), (.int .i64 gy)])) (op_call [(.agg #[(.int .i64 gx), (.int .i64 gy)])] Try.call11 rfl (toGrid_c gx gy)) ?_
  refine L.v (o_move (v := (.int .i64 n)) rfl) ?_
  refine L.cons (op_call [(.agg #[(.int .i64 gx), (.int .i64 gy)]), (.int .i64 n)] Try.call18 rfl (implRows gx gy n)) ?_
  rintro _ s17 ⟨p13, c14, bs15, rfl, hl16⟩
  have hb18 := hl16.ext _ _ hb12
  have rd19 := Sl.ext hl10.reads hl16.ext
  have ib20 := InB.ext hl10.inb hl16.ext
  refine L.v (o_move (v := (.tuple #[(.slice p13 ((rowsF gx gy n).length) c14), (.bool (rowsB gx gy n))])) rfl) ?_
  refine L.v (o_extract (vs := #[(.slice p13 ((rowsF gx gy n).length) c14), (.bool (rowsB gx gy n))]) (v := (.slice p13 ((rowsF gx gy n).length) c14)) rfl rfl rfl) ?_
  refine L.v (o_extract (vs := #[(.slice p13 ((rowsF gx gy n).length) c14), (.bool (rowsB gx gy n))]) (v := (.bool (rowsB gx gy n))) rfl rfl rfl) ?_
  refine L.v (o_assign (v := (.slice p13 ((rowsF gx gy n).length) c14)) rfl) ?_
  refine L.v (o_assign (v := (.bool (rowsB gx gy n))) rfl) ?_
  refine L.nil ?_
  refine W.seq ?_
  refine W.seq ?_
  refine W.region ?_
  refine L.v (o_move (v := (.slice p13 ((rowsF gx gy n).length) c14)) rfl) ?_
  refine L.v (o_move (v := (.slice p7 ((rowsF gx gy n).length) c8)) rfl) ?_
  refine L.v (v := (.bool true)) (op_call [(.slice p13 ((rowsF gx gy n).length) c14), (.slice p7 ((rowsF gx gy n).length) c8)] Try.call19 rfl (eqII64 p13 p7 c14 c8 bs15 bs9 (rowsF gx gy n) hl16.reads rd19 hl16.inb ib20 hl16.len hl10.len (by have := rowsF_le gx gy n; omega))) ?_
  refine L.v (o_not (b := true) (c := false) rfl rfl) ?_
  refine L.v (o_move (v := (.bool false)) rfl) ?_
  refine L.gv (j := 4) (d₁ := 31) (b := false) rfl rfl rfl rfl (o_move (v := (.bool (rowsB gx gy n))) rfl) ?_
  refine L.gv (j := 4) (d₁ := 31) (b := false) rfl rfl rfl rfl (o_move (v := (.bool (rowsB gx gy n))) rfl) ?_
  refine L.gv (j := 4) (d₁ := 31) (b := false) rfl rfl rfl rfl (o_bneq (a := rowsB gx gy n) (b := rowsB gx gy n) (c := false) Try.underlying4 rfl rfl (by simp)) ?_
  refine L.v (o_pickF (b := false) (v := (.bool false)) rfl rfl rfl) ?_
  refine L.nil ?_
  refine W.condF (b := false) rfl rfl ?_
  refine W.skip ?_
  refine W.seq ?_
  refine W.region ?_
  refine L.v (o_assign (v := (.int .i64 1)) rfl) ?_
  refine L.nil ?_
  refine W.seq ?_
  refine W.region ?_
  refine L.v (o_move (v := (.slice p13 ((rowsF gx gy n).length) c14)) rfl) ?_
  refine L.v (o_move (v := (.int .i64 1)) rfl) ?_
  refine L.cons (op_call [(.slice p13 ((rowsF gx gy n).length) c14), (.int .i64 1)] Try.call20 rfl (markII64 p13 (rowsF gx gy n).length c14 1 bs15 (rowsF gx gy n) hl16.reads hl16.inb hl16.len rfl (fun i j hi hj e => hl16.inj i j (by rw [hl16.len]; exact hi) (by rw [hl16.len]; exact hj) e) (fun i hi => (hl16.low i (by rw [hl16.len]; exact hi)).1) hl16.apart (rowsF_le gx gy n) (by decide))) ?_
  rintro _ s21 ⟨rfl, kp22, im23⟩
  have lw24 : ∀ b ∈ bs15, _ = Option.none := fun b hb => LS.lowm hl16 hb
  have hb25 := cell_apart hb12 hl16.ext lw24 kp22
  have rd26 := Sl.apart_new hl10.reads hl16.ext lw24 kp22
  have ib27 := InB.apart_new hl10.inb hl16.ext lw24 kp22
  have rd28 := Sl.keep hl16.reads (fun b off e => kp22 b (hl16.apart b off e))
  refine L.v (o_assign (v := (.int .i64 (1 + 2 * (((rowsF gx gy n).length : Nat) : Int)))) rfl) ?_
  refine L.nil ?_
  refine W.seq ?_
  refine W.region ?_
  refine L.v (o_assign (v := (.int .i64 1)) rfl) ?_
  refine L.nil ?_
  refine W.seq ?_
  refine W.region ?_
  refine L.v (o_move (v := (.slice p13 ((rowsF gx gy n).length) c14)) rfl) ?_
  refine L.v (o_move (v := (.int .i64 1)) rfl) ?_
  refine L.v (v := (.int .i64 (1 + 2 * (((rowsF gx gy n).length : Nat) : Int)))) (op_call [(.slice p13 ((rowsF gx gy n).length) c14), (.int .i64 1)] Try.call21 rfl (heldII64 p13 (rowsF gx gy n).length c14 1 bs15 rd28 im23 hl16.len (rowsF_le gx gy n) (by decide))) ?_
  refine L.v (o_assign (v := (.int .i64 (1 + 2 * (((rowsF gx gy n).length : Nat) : Int)))) rfl) ?_
  refine L.nil ?_
  refine W.seq ?_
  refine W.seq ?_
  refine W.region ?_
  refine L.v (o_move (v := (.int .i64 (1 + 2 * (((rowsF gx gy n).length : Nat) : Int)))) rfl) ?_
  refine L.v (o_ilss (a := 1 + 2 * (((rowsF gx gy n).length : Nat) : Int)) (b := 0) rfl rfl rfl) ?_
  refine L.nil ?_
  refine W.condF (b := decide ((1 + 2 * (((rowsF gx gy n).length : Nat) : Int) : Int) < 0)) rfl (decide_eq_false (by omega)) ?_
  refine W.skip ?_
  refine W.seq ?_
  refine W.seq ?_
  refine W.region ?_
  refine L.v (o_move (v := (.int .i64 (1 + 2 * (((rowsF gx gy n).length : Nat) : Int)))) rfl) ?_
  refine L.v (o_move (v := (.int .i64 (1 + 2 * (((rowsF gx gy n).length : Nat) : Int)))) rfl) ?_
  refine L.v (o_ineq (a := 1 + 2 * (((rowsF gx gy n).length : Nat) : Int)) (b := 1 + 2 * (((rowsF gx gy n).length : Nat) : Int)) (c := false) rfl rfl (by simp)) ?_
  refine L.nil ?_
  refine W.condF (b := false) rfl rfl ?_
  refine W.skip ?_
  refine W.seq ?_
  refine W.region ?_
  refine L.v (o_loads (b := b1) (off := 0) (vs := [(.int .i64 gx), (.int .i64 gy)]) Try.isAgg23 Try.sizeOf23 rfl rfl (Rds.of hb25 (by intro j v hj; simpa using hj))) ?_
  refine L.v (v := (.agg #[(.int .i64 gx), (.int .i64 gy)])) (op_call [(.agg #[(.int .i64 gx), (.int .i64 gy)])] Try.call11 rfl (toGrid_c gx gy)) ?_
  refine L.v (o_move (v := (.int .i64 n)) rfl) ?_
  refine L.cons (op_call [(.agg #[(.int .i64 gx), (.int .i64 gy)]), (.int .i64 n)] Try.call18 rfl (implRows gx gy n)) ?_
  rintro _ s33 ⟨p29, c30, bs31, rfl, hl32⟩
  have hb34 := hl32.ext _ _ hb25
  have rd35 := Sl.ext rd26 hl32.ext
  have ib36 := InB.ext ib27 hl32.ext
  have rd37 := Sl.ext rd28 hl32.ext
  have ib38 := InB.ext im23 hl32.ext
  refine L.v (o_move (v := (.tuple #[(.slice p29 ((rowsF gx gy n).length) c30), (.bool (rowsB gx gy n))])) rfl) ?_
  refine L.v (o_extract (vs := #[(.slice p29 ((rowsF gx gy n).length) c30), (.bool (rowsB gx gy n))]) (v := (.slice p29 ((rowsF gx gy n).length) c30)) rfl rfl rfl) ?_
  refine L.v (o_extract (vs := #[(.slice p29 ((rowsF gx gy n).length) c30), (.bool (rowsB gx gy n))]) (v := (.bool (rowsB gx gy n))) rfl rfl rfl) ?_
  refine L.v (o_assign (v := (.slice p29 ((rowsF gx gy n).length) c30)) rfl) ?_
  refine L.v (o_assign (v := (.bool (rowsB gx gy n))) rfl) ?_
  refine L.nil ?_
  refine W.seq ?_
  refine W.seq ?_
  refine W.region ?_
  refine L.v (o_move (v := (.slice p29 ((rowsF gx gy n).length) c30)) rfl) ?_
  refine L.v (o_move (v := (.slice p7 ((rowsF gx gy n).length) c8)) rfl) ?_
  refine L.v (v := (.bool true)) (op_call [(.slice p29 ((rowsF gx gy n).length) c30), (.slice p7 ((rowsF gx gy n).length) c8)] Try.call19 rfl (eqII64 p29 p7 c30 c8 bs31 bs9 (rowsF gx gy n) hl32.reads rd35 hl32.inb ib36 hl32.len hl10.len (by have := rowsF_le gx gy n; omega))) ?_
  refine L.v (o_not (b := true) (c := false) rfl rfl) ?_
  refine L.v (o_move (v := (.bool false)) rfl) ?_
  refine L.gv (j := 4) (d₁ := 58) (b := false) rfl rfl rfl rfl (o_move (v := (.bool (rowsB gx gy n))) rfl) ?_
  refine L.gv (j := 4) (d₁ := 58) (b := false) rfl rfl rfl rfl (o_move (v := (.bool (rowsB gx gy n))) rfl) ?_
  refine L.gv (j := 4) (d₁ := 58) (b := false) rfl rfl rfl rfl (o_bneq (a := rowsB gx gy n) (b := rowsB gx gy n) (c := false) Try.underlying4 rfl rfl (by simp)) ?_
  refine L.v (o_pickF (b := false) (v := (.bool false)) rfl rfl rfl) ?_
  refine L.nil ?_
  refine W.condF (b := false) rfl rfl ?_
  refine W.skip ?_
  refine W.seq ?_
  refine W.region ?_
  refine L.v (o_assign (v := (.int .i64 1)) rfl) ?_
  refine L.nil ?_
  refine W.seq ?_
  refine W.region ?_
  refine L.v (o_move (v := (.slice p13 ((rowsF gx gy n).length) c14)) rfl) ?_
  refine L.v (o_move (v := (.int .i64 1)) rfl) ?_
  refine L.v (v := (.int .i64 (1 + 2 * (((rowsF gx gy n).length : Nat) : Int)))) (op_call [(.slice p13 ((rowsF gx gy n).length) c14), (.int .i64 1)] Try.call21 rfl (heldII64 p13 (rowsF gx gy n).length c14 1 bs15 rd37 ib38 hl16.len (rowsF_le gx gy n) (by decide))) ?_
  refine L.v (o_assign (v := (.int .i64 (1 + 2 * (((rowsF gx gy n).length : Nat) : Int)))) rfl) ?_
  refine L.nil ?_
  refine W.seq ?_
  refine W.seq ?_
  refine W.region ?_
  refine L.v (o_move (v := (.int .i64 (1 + 2 * (((rowsF gx gy n).length : Nat) : Int)))) rfl) ?_
  refine L.v (o_ilss (a := 1 + 2 * (((rowsF gx gy n).length : Nat) : Int)) (b := 0) rfl rfl rfl) ?_
  refine L.nil ?_
  refine W.condF (b := decide ((1 + 2 * (((rowsF gx gy n).length : Nat) : Int) : Int) < 0)) rfl (decide_eq_false (by omega)) ?_
  refine W.skip ?_
  refine W.seq ?_
  refine W.seq ?_
  refine W.region ?_
  refine L.v (o_move (v := (.int .i64 (1 + 2 * (((rowsF gx gy n).length : Nat) : Int)))) rfl) ?_
  refine L.v (o_move (v := (.int .i64 (1 + 2 * (((rowsF gx gy n).length : Nat) : Int)))) rfl) ?_
  refine L.v (o_ineq (a := 1 + 2 * (((rowsF gx gy n).length : Nat) : Int)) (b := 1 + 2 * (((rowsF gx gy n).length : Nat) : Int)) (c := false) rfl rfl (by simp)) ?_
  refine L.nil ?_
  refine W.condF (b := false) rfl rfl ?_
  refine W.skip ?_
  refine W.seq ?_
  refine W.region ?_
  refine L.v (o_assign (v := (.bool true)) rfl) ?_
  refine L.nil ?_
  refine W.ret ?_
  exact RetK.one _ (.bool true) rfl rfl (Ext.refl _) rfl

end Go.Proofs.Ytpgmpjejfpmnoaa.En
