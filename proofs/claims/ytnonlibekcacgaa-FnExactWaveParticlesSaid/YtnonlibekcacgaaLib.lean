/- What makes a grid; the laws' own helpers. -/
import Derived.Test.YtnonlibekcacgaaEngN
import Derived.Test.YtnonlibekcacgaaRows
namespace Go.Proofs.Ytnonlibekcacgaa.En
open Go
set_option linter.unusedVariables false
set_option maxRecDepth 100000
theorem sameFloat_c {w0 : World} {σ : Sg} (a : Nat) :
    FnV Try.prog w0 14 [(.float .f64 a), (.float .f64 a)] σ (.bool true) := by
  unfold FnV
  refine Fn.of_W 37 Try.func14 rfl Try.ntmps14 rfl ?_
  refine W.seq ?_
  refine W.region ?_
  refine L.v (o_assign (v := (.bool false)) rfl) ?_
  refine L.nil ?_
  refine W.seq ?_
  refine W.seq ?_
  refine W.region ?_
  refine L.v (o_move (v := (.float .f64 a)) rfl) ?_
  refine L.v (o_move (v := (.float .f64 a)) rfl) ?_
  refine L.v (o_fcmp (k := .f64) (a := a) (b := a) rfl rfl rfl rfl) ?_
  refine L.v (o_move (v := (.bool (fcmp .neq .f64 a a))) rfl) ?_
  rcases Bool.eq_false_or_eq_true (fcmp .neq .f64 a a) with q1 | q1
  ·
    refine L.gF (j := 3) (d₁ := 8) (b := fcmp .neq .f64 a a) rfl rfl rfl q1 ?_
    refine L.gF (j := 3) (d₁ := 8) (b := fcmp .neq .f64 a a) rfl rfl rfl q1 ?_
    refine L.gF (j := 3) (d₁ := 8) (b := fcmp .neq .f64 a a) rfl rfl rfl q1 ?_
    refine L.v (o_pickT (b := fcmp .neq .f64 a a) (v := (.bool true)) rfl q1 rfl) ?_
    refine L.nil ?_
    refine W.condT (b := true) rfl rfl ?_
    refine W.seq ?_
    refine W.region ?_
    refine L.v (o_move (v := (.float .f64 a)) rfl) ?_
    refine L.v (o_move (v := (.float .f64 a)) rfl) ?_
    refine L.v (o_fcmp (k := .f64) (a := a) (b := a) rfl rfl rfl rfl) ?_
    refine L.v (o_move (v := (.bool (fcmp .neq .f64 a a))) rfl) ?_
    refine L.gv (j := 3) (d₁ := 16) (b := fcmp .neq .f64 a a) rfl rfl rfl q1 (o_move (v := (.float .f64 a)) rfl) ?_
    refine L.gv (j := 3) (d₁ := 16) (b := fcmp .neq .f64 a a) rfl rfl rfl q1 (o_move (v := (.float .f64 a)) rfl) ?_
    refine L.gv (j := 3) (d₁ := 16) (b := fcmp .neq .f64 a a) rfl rfl rfl q1 (o_fcmp (k := .f64) (a := a) (b := a) rfl rfl rfl rfl) ?_
    refine L.v (o_pickT (b := fcmp .neq .f64 a a) (v := (.bool (fcmp .neq .f64 a a))) rfl q1 rfl) ?_
    refine L.v (o_assign (v := (.bool (fcmp .neq .f64 a a))) rfl) ?_
    refine L.nil ?_
    refine W.ret ?_
    exact RetK.one σ (.bool (fcmp .neq .f64 a a)) rfl rfl (Ext.refl _) ⟨congrArg Value.bool q1, rfl⟩
  ·
    refine L.gv (j := 3) (d₁ := 8) (b := fcmp .neq .f64 a a) rfl rfl rfl q1 (o_move (v := (.float .f64 a)) rfl) ?_
    refine L.gv (j := 3) (d₁ := 8) (b := fcmp .neq .f64 a a) rfl rfl rfl q1 (o_move (v := (.float .f64 a)) rfl) ?_
    refine L.gv (j := 3) (d₁ := 8) (b := fcmp .neq .f64 a a) rfl rfl rfl q1 (o_fcmp (k := .f64) (a := a) (b := a) rfl rfl rfl rfl) ?_
    refine L.v (o_pickF (b := fcmp .neq .f64 a a) (v := (.bool (fcmp .neq .f64 a a))) rfl q1 rfl) ?_
    refine L.nil ?_
    refine W.condF (b := fcmp .neq .f64 a a) rfl q1 ?_
    refine W.skip ?_
    refine W.seq ?_
    refine W.seq ?_
    refine W.region ?_
    refine L.v (o_move (v := (.float .f64 a)) rfl) ?_
    refine L.v (o_fcmp (k := .f64) (a := a) (b := 0) rfl rfl rfl rfl) ?_
    refine L.v (o_move (v := (.bool (fcmp .eql .f64 a 0))) rfl) ?_
    rcases Bool.eq_false_or_eq_true (fcmp .eql .f64 a 0) with q2 | q2
    ·
      refine L.gv (j := 2) (d₁ := 23) (b := fcmp .eql .f64 a 0) rfl rfl rfl q2 (o_move (v := (.float .f64 a)) rfl) ?_
      refine L.gv (j := 2) (d₁ := 23) (b := fcmp .eql .f64 a 0) rfl rfl rfl q2 (o_fcmp (k := .f64) (a := a) (b := 0) rfl rfl rfl rfl) ?_
      refine L.v (o_pickT (b := fcmp .eql .f64 a 0) (v := (.bool (fcmp .eql .f64 a 0))) rfl q2 rfl) ?_
      refine L.nil ?_
      refine W.condT (b := fcmp .eql .f64 a 0) rfl q2 ?_
      refine W.seq ?_
      refine W.region ?_
      refine L.v (o_move (v := (.float .f64 a)) rfl) ?_
      refine L.v (o_farith (k := .f64) (a := 4607182418800017408) (b := a) rfl rfl rfl) ?_
      refine L.v (o_fcmp (k := .f64) (a := fop .quo .f64 4607182418800017408 a) (b := 0) rfl rfl rfl rfl) ?_
      refine L.v (o_move (v := (.float .f64 a)) rfl) ?_
      refine L.v (o_farith (k := .f64) (a := 4607182418800017408) (b := a) rfl rfl rfl) ?_
      refine L.v (o_fcmp (k := .f64) (a := fop .quo .f64 4607182418800017408 a) (b := 0) rfl rfl rfl rfl) ?_
      refine L.v (o_beql (a := fcmp .gtr .f64 (fop .quo .f64 4607182418800017408 a) 0) (b := fcmp .gtr .f64 (fop .quo .f64 4607182418800017408 a) 0) (c := true) Try.underlying4 rfl rfl (by simp)) ?_
      refine L.v (o_assign (v := (.bool true)) rfl) ?_
      refine L.nil ?_
      refine W.ret ?_
      exact RetK.one σ (.bool true) rfl rfl (Ext.refl _) ⟨congrArg Value.bool rfl, rfl⟩
    ·
      refine L.gF (j := 2) (d₁ := 23) (b := fcmp .eql .f64 a 0) rfl rfl rfl q2 ?_
      refine L.gF (j := 2) (d₁ := 23) (b := fcmp .eql .f64 a 0) rfl rfl rfl q2 ?_
      refine L.v (o_pickF (b := fcmp .eql .f64 a 0) (v := (.bool false)) rfl q2 rfl) ?_
      refine L.nil ?_
      refine W.condF (b := false) rfl rfl ?_
      refine W.skip ?_
      refine W.seq ?_
      refine W.region ?_
      refine L.v (o_move (v := (.float .f64 a)) rfl) ?_
      refine L.v (o_move (v := (.float .f64 a)) rfl) ?_
      refine L.v (o_fcmp (k := .f64) (a := a) (b := a) rfl rfl rfl rfl) ?_
      refine L.v (o_assign (v := (.bool (fcmp .eql .f64 a a))) rfl) ?_
      refine L.nil ?_
      refine W.ret ?_
      exact RetK.one σ (.bool (fcmp .eql .f64 a a)) rfl rfl (Ext.refl _) ⟨by first | rfl | (simp; done) | (congr 1; apply fcmp_eql_of; assumption) | (congr 1; simp), rfl⟩

theorem withinI {w0 : World} {σ : Sg} (n lo hi : Int) :
    FnV Try.prog w0 50 [(.int .i64 n), (.int .i64 lo), (.int .i64 hi)] σ (.bool (decide (lo ≤ n ∧ n ≤ hi))) := by
  unfold FnV
  refine Fn.of_W 15 Try.func50 rfl Try.ntmps50 rfl ?_
  refine W.seq ?_
  refine W.region ?_
  refine L.v (o_assign (v := (.bool false)) rfl) ?_
  refine L.nil ?_
  refine W.seq ?_
  refine W.region ?_
  refine L.v (o_move (v := (.int .i64 lo)) rfl) ?_
  refine L.v (o_move (v := (.int .i64 n)) rfl) ?_
  refine L.v (o_ileq (a := lo) (b := n) rfl rfl rfl) ?_
  refine L.v (o_move (v := (.bool (decide ((lo : Int) ≤ n)))) rfl) ?_
  rcases Bool.eq_false_or_eq_true (decide ((lo : Int) ≤ n)) with q1 | q1
  ·
    have a2 : (lo : Int) ≤ n := of_decide_eq_true q1
    refine L.gv (j := 3) (d₁ := 10) (b := decide ((lo : Int) ≤ n)) rfl rfl rfl q1 (o_move (v := (.int .i64 n)) rfl) ?_
    refine L.gv (j := 3) (d₁ := 10) (b := decide ((lo : Int) ≤ n)) rfl rfl rfl q1 (o_move (v := (.int .i64 hi)) rfl) ?_
    refine L.gv (j := 3) (d₁ := 10) (b := decide ((lo : Int) ≤ n)) rfl rfl rfl q1 (o_ileq (a := n) (b := hi) rfl rfl rfl) ?_
    refine L.v (o_pickT (b := decide ((lo : Int) ≤ n)) (v := (.bool (decide ((n : Int) ≤ hi)))) rfl q1 rfl) ?_
    refine L.v (o_assign (v := (.bool (decide ((n : Int) ≤ hi)))) rfl) ?_
    refine L.nil ?_
    refine W.ret ?_
    exact RetK.one σ (.bool (decide ((n : Int) ≤ hi))) rfl rfl (Ext.refl _) ⟨by first | rfl | (congr 1; exact decide_eq_decide.2 (by omega)) | (congr 1; exact (decide_eq_false (by omega)).symm) | (congr 1; exact (decide_eq_true (by omega)).symm), rfl⟩
  ·
    have a3 : ¬ ((lo : Int) ≤ n) := of_decide_eq_false q1
    refine L.gF (j := 3) (d₁ := 10) (b := decide ((lo : Int) ≤ n)) rfl rfl rfl q1 ?_
    refine L.gF (j := 3) (d₁ := 10) (b := decide ((lo : Int) ≤ n)) rfl rfl rfl q1 ?_
    refine L.gF (j := 3) (d₁ := 10) (b := decide ((lo : Int) ≤ n)) rfl rfl rfl q1 ?_
    refine L.v (o_pickF (b := decide ((lo : Int) ≤ n)) (v := (.bool false)) rfl q1 rfl) ?_
    refine L.v (o_assign (v := (.bool false)) rfl) ?_
    refine L.nil ?_
    refine W.ret ?_
    exact RetK.one σ (.bool false) rfl rfl (Ext.refl _) ⟨by first | rfl | (congr 1; exact decide_eq_decide.2 (by omega)) | (congr 1; exact (decide_eq_false (by omega)).symm) | (congr 1; exact (decide_eq_true (by omega)).symm), rfl⟩

theorem withinS {w0 : World} {σ : Sg} (n lo hi : Int) :
    FnV Try.prog w0 47 [(.int .i64 n), (.int .i64 lo), (.int .i64 hi)] σ (.bool (decide (lo ≤ n ∧ n ≤ hi))) := by
  unfold FnV
  refine Fn.of_W 15 Try.func47 rfl Try.ntmps47 rfl ?_
  refine W.seq ?_
  refine W.region ?_
  refine L.v (o_assign (v := (.bool false)) rfl) ?_
  refine L.nil ?_
  refine W.seq ?_
  refine W.region ?_
  refine L.v (o_move (v := (.int .i64 n)) rfl) ?_
  refine L.v (o_move (v := (.int .i64 lo)) rfl) ?_
  refine L.v (o_igeq (a := n) (b := lo) rfl rfl rfl) ?_
  refine L.v (o_move (v := (.bool (decide ((lo : Int) ≤ n)))) rfl) ?_
  rcases Bool.eq_false_or_eq_true (decide ((lo : Int) ≤ n)) with q1 | q1
  ·
    have a2 : (lo : Int) ≤ n := of_decide_eq_true q1
    refine L.gv (j := 3) (d₁ := 10) (b := decide ((lo : Int) ≤ n)) rfl rfl rfl q1 (o_move (v := (.int .i64 n)) rfl) ?_
    refine L.gv (j := 3) (d₁ := 10) (b := decide ((lo : Int) ≤ n)) rfl rfl rfl q1 (o_move (v := (.int .i64 hi)) rfl) ?_
    refine L.gv (j := 3) (d₁ := 10) (b := decide ((lo : Int) ≤ n)) rfl rfl rfl q1 (o_ileq (a := n) (b := hi) rfl rfl rfl) ?_
    refine L.v (o_pickT (b := decide ((lo : Int) ≤ n)) (v := (.bool (decide ((n : Int) ≤ hi)))) rfl q1 rfl) ?_
    refine L.v (o_assign (v := (.bool (decide ((n : Int) ≤ hi)))) rfl) ?_
    refine L.nil ?_
    refine W.ret ?_
    exact RetK.one σ (.bool (decide ((n : Int) ≤ hi))) rfl rfl (Ext.refl _) ⟨by first | rfl | (congr 1; exact decide_eq_decide.2 (by omega)) | (congr 1; exact (decide_eq_false (by omega)).symm) | (congr 1; exact (decide_eq_true (by omega)).symm), rfl⟩
  ·
    have a3 : ¬ ((lo : Int) ≤ n) := of_decide_eq_false q1
    refine L.gF (j := 3) (d₁ := 10) (b := decide ((lo : Int) ≤ n)) rfl rfl rfl q1 ?_
    refine L.gF (j := 3) (d₁ := 10) (b := decide ((lo : Int) ≤ n)) rfl rfl rfl q1 ?_
    refine L.gF (j := 3) (d₁ := 10) (b := decide ((lo : Int) ≤ n)) rfl rfl rfl q1 ?_
    refine L.v (o_pickF (b := decide ((lo : Int) ≤ n)) (v := (.bool false)) rfl q1 rfl) ?_
    refine L.v (o_assign (v := (.bool false)) rfl) ?_
    refine L.nil ?_
    refine W.ret ?_
    exact RetK.one σ (.bool false) rfl rfl (Ext.refl _) ⟨by first | rfl | (congr 1; exact decide_eq_decide.2 (by omega)) | (congr 1; exact (decide_eq_false (by omega)).symm) | (congr 1; exact (decide_eq_true (by omega)).symm), rfl⟩

theorem toGrid_c {w0 : World} {σ : Sg} (gx gy : Int) :
    FnV Try.prog w0 12 [(.agg #[(.int .i64 gx), (.int .i64 gy)])] σ (.agg #[.int .i64 gx, .int .i64 gy]) := by
  unfold FnV
  refine Fn.of_W 11 Try.func12 rfl Try.ntmps12 rfl ?_
  refine W.seq ?_
  refine W.region ?_
  refine L.cons (o_box (v := (.agg #[(.int .i64 gx), (.int .i64 gy)])) rfl rfl [(.int .i64 gx), (.int .i64 gy)] rfl) ?_
  rintro _ _ ⟨b1, hf2, hw3, rfl, rfl⟩
  have fz7 := Ext.none (Ext.refl _) hf2
  have hb6 : (sg σ b1 (23, [(.int .i64 gx), (.int .i64 gy)])) b1 = some (23, [(.int .i64 gx), (.int .i64 gy)]) := sg_eq _ _ _
  have hx5 : Ext σ (sg σ b1 (23, [(.int .i64 gx), (.int .i64 gy)])) := (Ext.refl _).sg hf2
  have ehx5 := Ext.trans (Ext.refl _) hx5
  generalize hgs4 : sg σ b1 (23, [(.int .i64 gx), (.int .i64 gy)]) = s4 at *
  clear hgs4
  refine L.cons (o_alloc Try.zeroValue27 [(.int .i64 0), (.int .i64 0)] rfl) ?_
  rintro _ _ ⟨b8, hf9, hw10, rfl, rfl⟩
  have fz14 := Ext.none ehx5 hf9
  have ne15 := ne_of_free hb6 hf9
  have hb13 : (sg s4 b8 (27, [(.int .i64 0), (.int .i64 0)])) b8 = some (27, [(.int .i64 0), (.int .i64 0)]) := sg_eq _ _ _
  have hx12 : Ext s4 (sg s4 b8 (27, [(.int .i64 0), (.int .i64 0)])) := (Ext.refl _).sg hf9
  have hb16 := hx12 _ _ hb6
  have ehx12 := Ext.trans ehx5 hx12
  generalize hgs11 : sg s4 b8 (27, [(.int .i64 0), (.int .i64 0)]) = s11 at *
  clear hgs11
  refine L.nil ?_
  refine W.seq ?_
  refine W.region ?_
  refine L.cons (o_alloc Try.zeroValue27 [(.int .i64 0), (.int .i64 0)] rfl) ?_
  rintro _ _ ⟨b17, hf18, hw19, rfl, rfl⟩
  have fz23 := Ext.none ehx12 hf18
  have ne24 := ne_of_free hb16 hf18
  have ne25 := ne_of_free hb13 hf18
  have hb22 : (sg s11 b17 (27, [(.int .i64 0), (.int .i64 0)])) b17 = some (27, [(.int .i64 0), (.int .i64 0)]) := sg_eq _ _ _
  have hx21 : Ext s11 (sg s11 b17 (27, [(.int .i64 0), (.int .i64 0)])) := (Ext.refl _).sg hf18
  have hb26 := hx21 _ _ hb16
  have hb27 := hx21 _ _ hb13
  have ehx21 := Ext.trans ehx12 hx21
  generalize hgs20 : sg s11 b17 (27, [(.int .i64 0), (.int .i64 0)]) = s20 at *
  clear hgs20
  refine L.nil ?_
  refine W.seq ?_
  refine W.region ?_
  refine L.v (o_fieldAddr (b := b1) (off := 0) (o := 0) (run_fieldAt (f := 0) (fld := { name := "Wide", type := 2, offset := 0, embedded := false, tag := "", pkgPath := "", byteOffset := 0 }) Try.underlying23 rfl Try.sizeOf2 (Nat.succ_ne_zero _)) rfl) ?_
  refine L.v (o_load (b := b1) (off := 0 + 0) (v := (.int .i64 gx)) Try.isAgg2 rfl (Rd.of hb26 rfl) rfl) ?_
  refine L.v (o_fieldAddr (b := b17) (off := 0) (o := 0) (run_fieldAt (f := 0) (fld := { name := "Wide", type := 2, offset := 0, embedded := false, tag := "", pkgPath := "", byteOffset := 0 }) Try.underlying27 rfl Try.sizeOf2 (Nat.succ_ne_zero _)) rfl) ?_
  refine L.cons0 (o_store (b := b17) (off := 0 + 0) (v := (.int .i64 gx)) Try.sizeOf2 rfl rfl rfl hb22 (by show _ < 2; decide) hw19) ?_
  rintro _ _ ⟨rfl, rfl⟩
  show L _ _ _ _ _ _ _ (sg s20 b17 (27, [(.int .i64 gx), (.int .i64 0)]))
  have e30 := Ext.sg (x := (27, [(.int .i64 gx), (.int .i64 0)])) ehx21 fz23
  generalize hgs29 : sg s20 b17 (27, [(.int .i64 gx), (.int .i64 0)]) = s29 at *
  have hb28 := congrFun hgs29 b17
  rw [sg_eq] at hb28
  replace hb28 : s29 b17 = some (27, [(.int .i64 gx), (.int .i64 0)]) := hb28.symm
  have hb31 := congrFun hgs29 b1
  rw [sg_other hb26 ne24] at hb31
  replace hb31 := hb31.symm
  have hb32 := congrFun hgs29 b8
  rw [sg_other hb27 ne25] at hb32
  replace hb32 := hb32.symm
  clear hgs29
  refine L.nil ?_
  refine W.seq ?_
  refine W.region ?_
  refine L.v (o_fieldAddr (b := b1) (off := 0) (o := 1) (run_fieldAt (f := 1) (fld := { name := "High", type := 2, offset := 1, embedded := false, tag := "", pkgPath := "", byteOffset := 8 }) Try.underlying23 rfl Try.sizeOf2 (Nat.succ_ne_zero _)) rfl) ?_
  refine L.v (o_load (b := b1) (off := 0 + 1) (v := (.int .i64 gy)) Try.isAgg2 rfl (Rd.of hb31 rfl) rfl) ?_
  refine L.v (o_fieldAddr (b := b17) (off := 0) (o := 1) (run_fieldAt (f := 1) (fld := { name := "High", type := 2, offset := 1, embedded := false, tag := "", pkgPath := "", byteOffset := 8 }) Try.underlying27 rfl Try.sizeOf2 (Nat.succ_ne_zero _)) rfl) ?_
  refine L.cons0 (o_store (b := b17) (off := 0 + 1) (v := (.int .i64 gy)) Try.sizeOf2 rfl rfl rfl hb28 (by show _ < 2; decide) hw19) ?_
  rintro _ _ ⟨rfl, rfl⟩
  show L _ _ _ _ _ _ _ (sg s29 b17 (27, [(.int .i64 gx), (.int .i64 gy)]))
  have e35 := Ext.sg (x := (27, [(.int .i64 gx), (.int .i64 gy)])) e30 fz23
  generalize hgs34 : sg s29 b17 (27, [(.int .i64 gx), (.int .i64 gy)]) = s34 at *
  have hb33 := congrFun hgs34 b17
  rw [sg_eq] at hb33
  replace hb33 : s34 b17 = some (27, [(.int .i64 gx), (.int .i64 gy)]) := hb33.symm
  have hb36 := congrFun hgs34 b1
  rw [sg_other hb31 ne24] at hb36
  replace hb36 := hb36.symm
  have hb37 := congrFun hgs34 b8
  rw [sg_other hb32 ne25] at hb37
  replace hb37 := hb37.symm
  clear hgs34
  refine L.nil ?_
  refine W.seq ?_
  refine W.region ?_
  refine L.v (o_loads (b := b17) (off := 0) (vs := [(.int .i64 gx), (.int .i64 gy)]) Try.isAgg27 Try.sizeOf27 rfl rfl (Rds.of hb33 (by intro j v hj; simpa using hj))) ?_
  refine L.cons0 (o_stores (b := b8) (off := 0) (vs := [(.int .i64 gx), (.int .i64 gy)]) Try.sizeOf27 rfl rfl rfl (by simp [Value.oneCell']) hb37 (by show _ ≤ 2; decide) hw10) ?_
  rintro _ _ ⟨rfl, rfl⟩
  show L _ _ _ _ _ _ _ (sg s34 b8 (27, [(.int .i64 gx), (.int .i64 gy)]))
  have e40 := Ext.sg (x := (27, [(.int .i64 gx), (.int .i64 gy)])) e35 fz14
  generalize hgs39 : sg s34 b8 (27, [(.int .i64 gx), (.int .i64 gy)]) = s39 at *
  have hb38 := congrFun hgs39 b8
  rw [sg_eq] at hb38
  replace hb38 : s39 b8 = some (27, [(.int .i64 gx), (.int .i64 gy)]) := hb38.symm
  have hb41 := congrFun hgs39 b1
  rw [sg_other hb36 ne15] at hb41
  replace hb41 := hb41.symm
  have hb42 := congrFun hgs39 b17
  rw [sg_other hb33 (Ne.symm ne25)] at hb42
  replace hb42 := hb42.symm
  clear hgs39
  refine L.nil ?_
  refine W.ret ?_
  exact RetK.cell σ [(.int .i64 gx), (.int .i64 gy)] Try.isAgg27 Try.sizeOf27 rfl rfl rfl (Rds.of hb38 (by intro j v hj; simpa using hj)) e40 ⟨rfl, rfl⟩

theorem specIs {w0 : World} {σ : Sg} (b e : Nat) (gx gy : Int) (hb : σ b = some (e, [.int .i64 gx, .int .i64 gy])) :
    FnV Try.prog w0 46 [(.pointer (some ⟨b, 0, none⟩))] σ (.bool (decide ((4 ≤ gx ∧ gx ≤ 16) ∧ 4 ≤ gy ∧ gy ≤ 16))) := by
  unfold FnV
  refine Fn.of_W 15 Try.func46 rfl Try.ntmps46 rfl ?_
  refine W.seq ?_
  refine W.region ?_
  refine L.v (o_assign (v := (.bool false)) rfl) ?_
  refine L.nil ?_
  refine W.seq ?_
  refine W.region ?_
  refine L.v (o_move (v := (.pointer (some ⟨b, 0, none⟩))) rfl) ?_
  refine L.v (o_nilCheck (p := ⟨b, 0, none⟩) rfl) ?_
  refine L.v (o_fieldAddr (b := b) (off := 0) (o := 0) (run_fieldAt (f := 0) (fld := { name := "Wide", type := 2, offset := 0, embedded := false, tag := "", pkgPath := "", byteOffset := 0 }) Try.underlying27 rfl Try.sizeOf2 (Nat.succ_ne_zero _)) rfl) ?_
  refine L.v (o_load (b := b) (off := 0 + 0) (v := (.int .i64 gx)) Try.isAgg2 rfl (Rd.of hb rfl) rfl) ?_
  refine L.v (v := (.bool (decide ((4 : Int) ≤ gx ∧ (gx : Int) ≤ 16)))) (op_call [(.int .i64 gx), (.int .i64 4), (.int .i64 16)] Try.call47 rfl (withinS gx 4 16)) ?_
  refine L.v (o_move (v := (.bool (decide ((4 : Int) ≤ gx ∧ (gx : Int) ≤ 16)))) rfl) ?_
  rcases Bool.eq_false_or_eq_true (decide ((4 : Int) ≤ gx ∧ (gx : Int) ≤ 16)) with q1 | q1
  ·
    have a2 : (4 : Int) ≤ gx ∧ (gx : Int) ≤ 16 := of_decide_eq_true q1
    refine L.gv (j := 5) (d₁ := 8) (b := decide ((4 : Int) ≤ gx ∧ (gx : Int) ≤ 16)) rfl rfl rfl q1 (o_move (v := (.pointer (some ⟨b, 0, none⟩))) rfl) ?_
    refine L.gv (j := 5) (d₁ := 8) (b := decide ((4 : Int) ≤ gx ∧ (gx : Int) ≤ 16)) rfl rfl rfl q1 (o_nilCheck (p := ⟨b, 0, none⟩) rfl) ?_
    refine L.gv (j := 5) (d₁ := 8) (b := decide ((4 : Int) ≤ gx ∧ (gx : Int) ≤ 16)) rfl rfl rfl q1 (o_fieldAddr (b := b) (off := 0) (o := 1) (run_fieldAt (f := 1) (fld := { name := "High", type := 2, offset := 1, embedded := false, tag := "", pkgPath := "", byteOffset := 8 }) Try.underlying27 rfl Try.sizeOf2 (Nat.succ_ne_zero _)) rfl) ?_
    refine L.gv (j := 5) (d₁ := 8) (b := decide ((4 : Int) ≤ gx ∧ (gx : Int) ≤ 16)) rfl rfl rfl q1 (o_load (b := b) (off := 0 + 1) (v := (.int .i64 gy)) Try.isAgg2 rfl (Rd.of hb rfl) rfl) ?_
    refine L.gv (j := 5) (d₁ := 8) (b := decide ((4 : Int) ≤ gx ∧ (gx : Int) ≤ 16)) rfl rfl rfl q1 (v := (.bool (decide ((4 : Int) ≤ gy ∧ (gy : Int) ≤ 16)))) (op_call [(.int .i64 gy), (.int .i64 4), (.int .i64 16)] Try.call47 rfl (withinS gy 4 16)) ?_
    refine L.v (o_pickT (b := decide ((4 : Int) ≤ gx ∧ (gx : Int) ≤ 16)) (v := (.bool (decide ((4 : Int) ≤ gy ∧ (gy : Int) ≤ 16)))) rfl q1 rfl) ?_
    refine L.v (o_assign (v := (.bool (decide ((4 : Int) ≤ gy ∧ (gy : Int) ≤ 16)))) rfl) ?_
    refine L.nil ?_
    refine W.ret ?_
    exact RetK.one σ (.bool (decide ((4 : Int) ≤ gy ∧ (gy : Int) ≤ 16))) rfl rfl (Ext.refl _) ⟨by first | rfl | (congr 1; exact decide_eq_decide.2 (by omega)) | (congr 1; exact (decide_eq_false (by omega)).symm) | (congr 1; exact (decide_eq_true (by omega)).symm), rfl⟩
  ·
    have a3 : ¬ ((4 : Int) ≤ gx ∧ (gx : Int) ≤ 16) := of_decide_eq_false q1
    refine L.gF (j := 5) (d₁ := 8) (b := decide ((4 : Int) ≤ gx ∧ (gx : Int) ≤ 16)) rfl rfl rfl q1 ?_
    refine L.gF (j := 5) (d₁ := 8) (b := decide ((4 : Int) ≤ gx ∧ (gx : Int) ≤ 16)) rfl rfl rfl q1 ?_
    refine L.gF (j := 5) (d₁ := 8) (b := decide ((4 : Int) ≤ gx ∧ (gx : Int) ≤ 16)) rfl rfl rfl q1 ?_
    refine L.gF (j := 5) (d₁ := 8) (b := decide ((4 : Int) ≤ gx ∧ (gx : Int) ≤ 16)) rfl rfl rfl q1 ?_
    refine L.gF (j := 5) (d₁ := 8) (b := decide ((4 : Int) ≤ gx ∧ (gx : Int) ≤ 16)) rfl rfl rfl q1 ?_
    refine L.v (o_pickF (b := decide ((4 : Int) ≤ gx ∧ (gx : Int) ≤ 16)) (v := (.bool false)) rfl q1 rfl) ?_
    refine L.v (o_assign (v := (.bool false)) rfl) ?_
    refine L.nil ?_
    refine W.ret ?_
    exact RetK.one σ (.bool false) rfl rfl (Ext.refl _) ⟨by first | rfl | (congr 1; exact decide_eq_decide.2 (by omega)) | (congr 1; exact (decide_eq_false (by omega)).symm) | (congr 1; exact (decide_eq_true (by omega)).symm), rfl⟩

theorem implIs {w0 : World} {σ : Sg} (gx gy : Int) :
    FnV Try.prog w0 49 [(.agg #[(.int .i64 gx), (.int .i64 gy)])] σ (.bool (decide ((4 ≤ gx ∧ gx ≤ 16) ∧ 4 ≤ gy ∧ gy ≤ 16))) := by
  unfold FnV
  refine Fn.of_W 11 Try.func49 rfl Try.ntmps49 rfl ?_
  refine W.seq ?_
  refine W.region ?_
  refine L.cons (o_box (v := (.agg #[(.int .i64 gx), (.int .i64 gy)])) rfl rfl [(.int .i64 gx), (.int .i64 gy)] rfl) ?_
  rintro _ _ ⟨b1, hf2, hw3, rfl, rfl⟩
  have hb6 : (sg σ b1 (27, [(.int .i64 gx), (.int .i64 gy)])) b1 = some (27, [(.int .i64 gx), (.int .i64 gy)]) := sg_eq _ _ _
  have hx5 : Ext σ (sg σ b1 (27, [(.int .i64 gx), (.int .i64 gy)])) := (Ext.refl _).sg hf2
  have ehx5 := Ext.trans (Ext.refl _) hx5
  generalize hgs4 : sg σ b1 (27, [(.int .i64 gx), (.int .i64 gy)]) = s4 at *
  clear hgs4
  refine L.v (o_assign (v := (.bool false)) rfl) ?_
  refine L.nil ?_
  refine W.seq ?_
  refine W.region ?_
  refine L.v (o_fieldAddr (b := b1) (off := 0) (o := 0) (run_fieldAt (f := 0) (fld := { name := "Wide", type := 2, offset := 0, embedded := false, tag := "", pkgPath := "", byteOffset := 0 }) Try.underlying27 rfl Try.sizeOf2 (Nat.succ_ne_zero _)) rfl) ?_
  refine L.v (o_load (b := b1) (off := 0 + 0) (v := (.int .i64 gx)) Try.isAgg2 rfl (Rd.of hb6 rfl) rfl) ?_
  refine L.v (v := (.bool (decide ((4 : Int) ≤ gx ∧ (gx : Int) ≤ 16)))) (op_call [(.int .i64 gx), (.int .i64 4), (.int .i64 16)] Try.call50 rfl (withinI gx 4 16)) ?_
  refine L.v (o_move (v := (.bool (decide ((4 : Int) ≤ gx ∧ (gx : Int) ≤ 16)))) rfl) ?_
  rcases Bool.eq_false_or_eq_true (decide ((4 : Int) ≤ gx ∧ (gx : Int) ≤ 16)) with q7 | q7
  ·
    have a8 : (4 : Int) ≤ gx ∧ (gx : Int) ≤ 16 := of_decide_eq_true q7
    refine L.gv (j := 3) (d₁ := 6) (b := decide ((4 : Int) ≤ gx ∧ (gx : Int) ≤ 16)) rfl rfl rfl q7 (o_fieldAddr (b := b1) (off := 0) (o := 1) (run_fieldAt (f := 1) (fld := { name := "High", type := 2, offset := 1, embedded := false, tag := "", pkgPath := "", byteOffset := 8 }) Try.underlying27 rfl Try.sizeOf2 (Nat.succ_ne_zero _)) rfl) ?_
    refine L.gv (j := 3) (d₁ := 6) (b := decide ((4 : Int) ≤ gx ∧ (gx : Int) ≤ 16)) rfl rfl rfl q7 (o_load (b := b1) (off := 0 + 1) (v := (.int .i64 gy)) Try.isAgg2 rfl (Rd.of hb6 rfl) rfl) ?_
    refine L.gv (j := 3) (d₁ := 6) (b := decide ((4 : Int) ≤ gx ∧ (gx : Int) ≤ 16)) rfl rfl rfl q7 (v := (.bool (decide ((4 : Int) ≤ gy ∧ (gy : Int) ≤ 16)))) (op_call [(.int .i64 gy), (.int .i64 4), (.int .i64 16)] Try.call50 rfl (withinI gy 4 16)) ?_
    refine L.v (o_pickT (b := decide ((4 : Int) ≤ gx ∧ (gx : Int) ≤ 16)) (v := (.bool (decide ((4 : Int) ≤ gy ∧ (gy : Int) ≤ 16)))) rfl q7 rfl) ?_
    refine L.v (o_assign (v := (.bool (decide ((4 : Int) ≤ gy ∧ (gy : Int) ≤ 16)))) rfl) ?_
    refine L.nil ?_
    refine W.ret ?_
    exact RetK.one σ (.bool (decide ((4 : Int) ≤ gy ∧ (gy : Int) ≤ 16))) rfl rfl ehx5 ⟨by first | rfl | (congr 1; exact decide_eq_decide.2 (by omega)) | (congr 1; exact (decide_eq_false (by omega)).symm) | (congr 1; exact (decide_eq_true (by omega)).symm), rfl⟩
  ·
    have a9 : ¬ ((4 : Int) ≤ gx ∧ (gx : Int) ≤ 16) := of_decide_eq_false q7
    refine L.gF (j := 3) (d₁ := 6) (b := decide ((4 : Int) ≤ gx ∧ (gx : Int) ≤ 16)) rfl rfl rfl q7 ?_
    refine L.gF (j := 3) (d₁ := 6) (b := decide ((4 : Int) ≤ gx ∧ (gx : Int) ≤ 16)) rfl rfl rfl q7 ?_
    refine L.gF (j := 3) (d₁ := 6) (b := decide ((4 : Int) ≤ gx ∧ (gx : Int) ≤ 16)) rfl rfl rfl q7 ?_
    refine L.v (o_pickF (b := decide ((4 : Int) ≤ gx ∧ (gx : Int) ≤ 16)) (v := (.bool false)) rfl q7 rfl) ?_
    refine L.v (o_assign (v := (.bool false)) rfl) ?_
    refine L.nil ?_
    refine W.ret ?_
    exact RetK.one σ (.bool false) rfl rfl ehx5 ⟨by first | rfl | (congr 1; exact decide_eq_decide.2 (by omega)) | (congr 1; exact (decide_eq_false (by omega)).symm) | (congr 1; exact (decide_eq_true (by omega)).symm), rfl⟩

end Go.Proofs.Ytnonlibekcacgaa.En
