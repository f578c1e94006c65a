/- What makes an element and a line valid, in the program and in the reference; ValidLine and its law. -/
import Derived.Test.YtpgmpjejfpmnoaaEngT
import Derived.Test.YtpgmpjejfpmnoaaElem
import Derived.Test.YtpgmpjejfpmnoaaRows
namespace Go.Proofs.Ytpgmpjejfpmnoaa.En
open Go
set_option linter.unusedVariables false
def elOk (a : Int) (u v : Nat) : Bool := (decide (0 ≤ a ∧ a ≤ 4) && (finB u && (finB v && (if a = 1 then fcmp .neq .f32 u 0 else if a = 2 then fcmp .geq .f32 u 0 else true))))
def okE (x : Int × Nat × Nat) : Bool := elOk x.1 x.2.1 x.2.2
def lineOk (xs : List (Int × Nat × Nat)) : Bool := xs.all okE && decide (xs.length ≤ 32)
theorem all_take {α : Type} {p : α → Bool} {xs : List α} {d : α} {i : Nat} (hi : i < xs.length) (h : (xs.take i).all p = true) (hx : p (xs.getD i d) = true) : (xs.take (i + 1)).all p = true := by
  rw [List.take_succ_eq_append_getElem hi, List.all_append, h, Bool.true_and]
  simp only [List.getD_eq_getElem?_getD, List.getElem?_eq_getElem hi, Option.getD_some] at hx
  simp [hx]
theorem all_false {α : Type} {p : α → Bool} {xs : List α} {d : α} {i : Nat} (hi : i < xs.length) (hx : p (xs.getD i d) = false) : xs.all p = false := by
  rw [List.all_eq_false]
  exact ⟨xs.getD i d, by rw [List.getD_eq_getElem?_getD, List.getElem?_eq_getElem hi]; exact List.getElem_mem _, by rw [hx]; decide⟩
theorem two_false {u v i : Nat} (hi : i < 2) (h : finB ([u, v].getD i 0) = false) : (finB u && finB v) = false := by
  rcases i with _ | _ | i
  · have h' : finB u = false := h
    rw [h']; rfl
  · have h' : finB v = false := h
    rw [h', Bool.and_false]
  · omega
def badIx (xs : List (Int × Nat × Nat)) : Int := if xs.all okE then -1 else ((xs.findIdx fun x => !okE x : Nat) : Int)
theorem badIx_all {xs : List (Int × Nat × Nat)} (h : xs.all okE = true) : badIx xs = -1 := by rw [badIx, if_pos h]
theorem badIx_at {xs : List (Int × Nat × Nat)} {i : Nat} (hi : i < xs.length) (h : (xs.take i).all okE = true) (hx : okE (xs.getD i (0, 0, 0)) = false) : badIx xs = (i : Int) := by
  rw [badIx, if_neg (by rw [all_false hi hx]; decide)]
  congr 1
  have hx' : okE xs[i] = false := by rwa [List.getD_eq_getElem?_getD, List.getElem?_eq_getElem hi] at hx
  refine (List.findIdx_eq hi).2 ⟨by rw [hx']; rfl, fun j hj => ?_⟩
  have hm : xs[j] ∈ xs.take i := by
    rw [List.mem_take_iff_getElem]
    exact ⟨j, by omega, rfl⟩
  rw [List.all_eq_true.1 h _ hm]; rfl
theorem badIx_dec (xs : List (Int × Nat × Nat)) : decide ((0 : Int) ≤ badIx xs) = !xs.all okE := by
  unfold badIx
  cases h : xs.all okE with
  | true => rfl
  | false => rw [if_neg (by decide)]; exact decide_eq_true (Int.natCast_nonneg _)
theorem specFin {w0 : World} {σ : Sg} (x : Nat) :
    FnV Try.prog w0 75 [(.float .f32 x)] σ (.bool (finB x)) := by
  unfold FnV
  refine Fn.of_W 7 Try.func75 rfl Try.ntmps75 rfl ?_
  refine W.seq ?_
  refine W.region ?_
  refine L.v (o_assign (v := (.bool false)) rfl) ?_
  refine L.nil ?_
  refine W.seq ?_
  refine W.region ?_
  refine L.v (o_move (v := (.float .f32 x)) rfl) ?_
  refine L.v (o_move (v := (.float .f32 x)) rfl) ?_
  refine L.v (o_farith (k := .f32) (a := x) (b := x) rfl rfl rfl) ?_
  refine L.v (o_fcmp (k := .f32) (a := fop .sub .f32 x x) (b := 0) rfl rfl rfl rfl) ?_
  refine L.v (o_assign (v := (.bool (fcmp .eql .f32 (fop .sub .f32 x x) 0))) rfl) ?_
  refine L.nil ?_
  refine W.ret ?_
  exact RetK.one σ (.bool (fcmp .eql .f32 (fop .sub .f32 x x) 0)) rfl rfl (Ext.refl _) ⟨rfl, rfl⟩

theorem isFiniteC {w0 : World} {σ : Sg} (t : Nat) :
    FnV Try.prog w0 79 [(.float .f64 t)] σ (.bool (fcmp .eql .f64 (fop .sub .f64 t t) 0)) := by
  unfold FnV
  refine Fn.of_W 7 Try.func79 rfl Try.ntmps79 rfl ?_
  refine W.seq ?_
  refine W.region ?_
  refine L.v (o_assign (v := (.bool false)) rfl) ?_
  refine L.nil ?_
  refine W.seq ?_
  refine W.region ?_
  refine L.v (o_move (v := (.float .f64 t)) rfl) ?_
  refine L.v (o_move (v := (.float .f64 t)) rfl) ?_
  refine L.v (o_farith (k := .f64) (a := t) (b := t) rfl rfl rfl) ?_
  refine L.v (o_fcmp (k := .f64) (a := fop .sub .f64 t t) (b := 0) rfl rfl rfl rfl) ?_
  refine L.v (o_assign (v := (.bool (fcmp .eql .f64 (fop .sub .f64 t t) 0))) rfl) ?_
  refine L.nil ?_
  refine W.ret ?_
  exact RetK.one σ (.bool (fcmp .eql .f64 (fop .sub .f64 t t) 0)) rfl rfl (Ext.refl _) ⟨rfl, rfl⟩

theorem implFin {w0 : World} {σ : Sg} (x : Nat) :
    FnV Try.prog w0 76 [(.float .f32 x)] σ (.bool (finB x)) := by
  unfold FnV
  refine Fn.of_W 6 Try.func76 rfl Try.ntmps76 rfl ?_
  refine W.seq ?_
  refine W.region ?_
  refine L.v (o_assign (v := (.bool false)) rfl) ?_
  refine L.nil ?_
  refine W.seq ?_
  refine W.region ?_
  refine L.v (o_move (v := (.float .f32 x)) rfl) ?_
  refine L.v (o_cvFF (s := .f32) (d := .f64) (a := x) (by rw [Try.underlying56]; rfl) Try.underlying60 rfl (okw x)) ?_
  refine L.v (v := (.bool (fcmp .eql .f64 (fop .sub .f64 (cvt .f32 .f64 x) (cvt .f32 .f64 x)) 0))) (op_call [(.float .f64 (cvt .f32 .f64 x))] Try.call79 rfl (isFiniteC (cvt .f32 .f64 x))) ?_
  refine L.v (o_assign (v := (.bool (fcmp .eql .f64 (fop .sub .f64 (cvt .f32 .f64 x) (cvt .f32 .f64 x)) 0))) rfl) ?_
  refine L.nil ?_
  refine W.ret ?_
  exact RetK.one σ (.bool (fcmp .eql .f64 (fop .sub .f64 (cvt .f32 .f64 x) (cvt .f32 .f64 x)) 0)) rfl rfl (Ext.refl _) ⟨by rw [finW], rfl⟩

theorem areFin2 {w0 : World} {σ : Sg} (b o : Nat) (u v : Nat) (hs : Sl σ 1 (some ⟨b, o, none⟩) ([u, v].map fl)) :
    FnV Try.prog w0 69 [(.slice (some ⟨b, o, none⟩) 2 2)] σ (.bool (finB u && finB v)) := by
  unfold FnV
  refine Fn.of_W 15 Try.func69 rfl Try.ntmps69 rfl ?_
  refine W.seq ?_
  refine W.region ?_
  refine L.v (o_assign (v := (.bool false)) rfl) ?_
  refine L.nil ?_
  refine W.seq ?_
  refine W.seq ?_
  refine W.region ?_
  refine L.v (o_move (v := (.slice (some ⟨b, o, none⟩) 2 2)) rfl) ?_
  refine L.v (o_len (p := (some ⟨b, o, none⟩)) (n := 2) (c := 2) Try.underlying24 rfl) ?_
  refine L.v (o_move (v := (.int .i64 0)) rfl) ?_
  refine L.nil ?_
  refine W.block ?_
  refine W.loop (fun nn tt ss => ∃ (i : Nat), nn = 2 - i ∧ (i ≤ 2) ∧ (([u, v].take i).all finB = true) ∧ FrOk tt [(5, (.slice (some ⟨b, o, none⟩) 2 2)), (6, (.int .i64 2)), (7, (.int .i64 (i : Int)))] ∧ σ = ss) _ ⟨0, rfl, (by omega), (by simp), ⟨rfl, rfl, rfl, trivial⟩, rfl⟩ ?_
  rintro _ t1 _ ⟨i, rfl, hi, hok, f2, rfl⟩
  rw [← frame_ok f2]
  show W _ _ _ _ _ (upd (upd (upd t1 5 (.slice (some ⟨b, o, none⟩) 2 2)) 6 (.int .i64 2)) 7 (.int .i64 (i : Int))) _
  refine W.seq ?_
  refine W.region ?_
  refine L.v (o_ilss (a := (i : Int)) (b := 2) rfl rfl rfl) ?_
  refine L.nil ?_
  refine W.seq ?_
  refine W.cond (b := decide (((i : Int) : Int) < 2)) rfl (fun q3 => ?_) (fun q3 => ?_)
  ·
    have a4 : ((i : Int) : Int) < 2 := of_decide_eq_true q3
    refine W.skip ?_
    refine W.seq ?_
    refine W.block ?_
    refine W.seq ?_
    refine W.region ?_
    refine L.v (o_indexAddr (b := b) (off := o) (n := 2) (c := 2) i Try.underlying24 Try.sizeOf56 rfl rfl (by omega)) ?_
    refine L.v (o_load (b := b) (off := o + i * 1) (v := (.float .f32 ([u, v].getD i 0))) Try.isAgg56 rfl (Rds.fst (Sl.at hs i (by show _ < 2; omega) 0)) rfl) ?_
    refine L.v (o_assign (v := (.float .f32 ([u, v].getD i 0))) rfl) ?_
    refine L.nil ?_
    refine W.seq ?_
    refine W.region ?_
    refine L.v (o_move (v := (.float .f32 ([u, v].getD i 0))) rfl) ?_
    refine L.v (v := (.bool (finB ([u, v].getD i 0)))) (op_call [(.float .f32 ([u, v].getD i 0))] Try.call76 rfl (implFin ([u, v].getD i 0))) ?_
    refine L.v (o_not (b := finB ([u, v].getD i 0)) rfl rfl) ?_
    refine L.nil ?_
    refine W.cond (b := !(finB ([u, v].getD i 0))) rfl (fun q5 => ?_) (fun q5 => ?_)
    ·
      refine W.seq ?_
      refine W.region ?_
      refine L.v (o_assign (v := (.bool false)) rfl) ?_
      refine L.nil ?_
      refine W.ret ?_
      exact RetK.one σ (.bool false) rfl rfl (Ext.refl _) ⟨by rw [two_false (i := i) (by omega) (bn_t q5)], rfl⟩
    ·
      refine W.skip ?_
      refine W.region ?_
      refine L.v (o_iadd (a := (i : Int)) (b := 1) (c := ((i + 1 : Nat) : Int)) rfl rfl (by rw [IntWalk.i64_in _ (by omega)]; try omega)) ?_
      refine L.v (o_move (v := (.int .i64 (((i + 1 : Nat) : Int)))) rfl) ?_
      refine L.nil ?_
      exact ⟨_, (by omega), i + 1, rfl, (by omega), (all_take (xs := [u, v]) (d := 0) (by show i < 2; omega) hok (bn_f q5)), ⟨rfl, rfl, rfl, trivial⟩, rfl⟩
  ·
    have a6 : ¬ (((i : Int) : Int) < 2) := of_decide_eq_false q3
    refine W.exit ?_
    refine W.seq ?_
    refine W.region ?_
    refine L.v (o_assign (v := (.bool true)) rfl) ?_
    refine L.nil ?_
    refine W.ret ?_
    obtain rfl : i = 2 := by omega
    exact RetK.one σ (.bool true) rfl rfl (Ext.refl _) ⟨by have := hok; simp at this; simp [this], rfl⟩

theorem implEl {w0 : World} {σ : Sg} (a : Int) (u v : Nat) :
    FnV Try.prog w0 56 [(.agg #[(.int .i64 a), (.float .f32 u), (.float .f32 v)])] σ (.bool (elOk a u v)) := by
  unfold FnV
  refine Fn.of_W 34 Try.func56 rfl Try.ntmps56 rfl ?_
  refine W.seq ?_
  refine W.region ?_
  refine L.cons (o_box (v := (.agg #[(.int .i64 a), (.float .f32 u), (.float .f32 v)])) rfl rfl [(.int .i64 a), (.float .f32 u), (.float .f32 v)] rfl) ?_
  rintro _ _ ⟨b1, hf2, hw3, rfl, rfl⟩
  have fz7 := Ext.none (Ext.refl _) hf2
  have hb6 : (sg σ b1 (68, [(.int .i64 a), (.float .f32 u), (.float .f32 v)])) b1 = some (68, [(.int .i64 a), (.float .f32 u), (.float .f32 v)]) := sg_eq _ _ _
  have hx5 : Ext σ (sg σ b1 (68, [(.int .i64 a), (.float .f32 u), (.float .f32 v)])) := (Ext.refl _).sg hf2
  have ehx5 := Ext.trans (Ext.refl _) hx5
  generalize hgs4 : sg σ b1 (68, [(.int .i64 a), (.float .f32 u), (.float .f32 v)]) = s4 at *
  clear hgs4
  refine L.v (o_assign (v := (.bool false)) rfl) ?_
  refine L.nil ?_
  refine W.seq ?_
  refine W.seq ?_
  refine W.region ?_
  refine L.v (o_fieldAddr (b := b1) (off := 0) (o := 0) (run_fieldAt (f := 0) (fld := { name := "Kind", type := 2, offset := 0, embedded := false, tag := "", pkgPath := "", byteOffset := 0 }) Try.underlying68 rfl Try.sizeOf2 (Nat.succ_ne_zero _)) rfl) ?_
  refine L.v (o_load (b := b1) (off := 0 + 0) (v := (.int .i64 a)) Try.isAgg2 rfl (Rd.of hb6 rfl) rfl) ?_
  refine L.v (v := (.bool (decide ((0 : Int) ≤ a ∧ (a : Int) ≤ 4)))) (op_call [(.int .i64 a), (.int .i64 0), (.int .i64 4)] Try.call41 rfl (withinI a 0 4)) ?_
  refine L.v (o_not (b := decide ((0 : Int) ≤ a ∧ (a : Int) ≤ 4)) rfl rfl) ?_
  refine L.v (o_move (v := (.bool (!(decide ((0 : Int) ≤ a ∧ (a : Int) ≤ 4))))) rfl) ?_
  rcases Bool.eq_false_or_eq_true (!(decide ((0 : Int) ≤ a ∧ (a : Int) ≤ 4))) with q8 | q8
  ·
    have a9 : ¬ ((0 : Int) ≤ a ∧ (a : Int) ≤ 4) := of_decide_eq_false (bn_t q8)
    refine L.gF (j := 4) (d₁ := 7) (b := !(decide ((0 : Int) ≤ a ∧ (a : Int) ≤ 4))) rfl rfl rfl q8 ?_
    refine L.gF (j := 4) (d₁ := 7) (b := !(decide ((0 : Int) ≤ a ∧ (a : Int) ≤ 4))) rfl rfl rfl q8 ?_
    refine L.gF (j := 4) (d₁ := 7) (b := !(decide ((0 : Int) ≤ a ∧ (a : Int) ≤ 4))) rfl rfl rfl q8 ?_
    refine L.gF (j := 4) (d₁ := 7) (b := !(decide ((0 : Int) ≤ a ∧ (a : Int) ≤ 4))) rfl rfl rfl q8 ?_
    refine L.gF (j := 4) (d₁ := 7) (b := !(decide ((0 : Int) ≤ a ∧ (a : Int) ≤ 4))) rfl rfl rfl q8 ?_
    refine L.gF (j := 4) (d₁ := 7) (b := !(decide ((0 : Int) ≤ a ∧ (a : Int) ≤ 4))) rfl rfl rfl q8 ?_
    refine L.gF (j := 4) (d₁ := 7) (b := !(decide ((0 : Int) ≤ a ∧ (a : Int) ≤ 4))) rfl rfl rfl q8 ?_
    refine L.v (o_pickT (b := !(decide ((0 : Int) ≤ a ∧ (a : Int) ≤ 4))) (v := (.bool true)) rfl q8 rfl) ?_
    refine L.nil ?_
    refine W.condT (b := true) rfl rfl ?_
    refine W.seq ?_
    refine W.region ?_
    refine L.v (o_assign (v := (.bool false)) rfl) ?_
    refine L.nil ?_
    refine W.ret ?_
    exact RetK.one σ (.bool false) rfl rfl ehx5 ⟨by first | rfl | (unfold elOk; cases hfu : finB u <;> cases hfv : finB v <;> by_cases h0 : 0 ≤ a ∧ a ≤ 4 <;> by_cases h1 : a = 1 <;> by_cases h2 : a = 2 <;> simp_all <;> omega), rfl⟩
  ·
    have a10 : (0 : Int) ≤ a ∧ (a : Int) ≤ 4 := of_decide_eq_true (bn_f q8)
    refine L.gv (j := 4) (d₁ := 7) (b := !(decide ((0 : Int) ≤ a ∧ (a : Int) ≤ 4))) rfl rfl rfl q8 (o_fieldAddr (b := b1) (off := 0) (o := 1) (run_fieldAt (f := 1) (fld := { name := "Number", type := 56, offset := 1, embedded := false, tag := "", pkgPath := "", byteOffset := 8 }) Try.underlying68 rfl Try.sizeOf56 (Nat.succ_ne_zero _)) rfl) ?_
    refine L.gv (j := 4) (d₁ := 7) (b := !(decide ((0 : Int) ≤ a ∧ (a : Int) ≤ 4))) rfl rfl rfl q8 (o_load (b := b1) (off := 0 + 1) (v := (.float .f32 u)) Try.isAgg56 rfl (Rd.of hb6 rfl) rfl) ?_
    refine L.gv (j := 4) (d₁ := 7) (b := !(decide ((0 : Int) ≤ a ∧ (a : Int) ≤ 4))) rfl rfl rfl q8 (o_fieldAddr (b := b1) (off := 0) (o := 2) (run_fieldAt (f := 2) (fld := { name := "Phase", type := 56, offset := 2, embedded := false, tag := "", pkgPath := "", byteOffset := 12 }) Try.underlying68 rfl Try.sizeOf56 (Nat.succ_ne_zero _)) rfl) ?_
    refine L.gv (j := 4) (d₁ := 7) (b := !(decide ((0 : Int) ≤ a ∧ (a : Int) ≤ 4))) rfl rfl rfl q8 (o_load (b := b1) (off := 0 + 2) (v := (.float .f32 v)) Try.isAgg56 rfl (Rd.of hb6 rfl) rfl) ?_
    refine L.gT (j := 4) (d₁ := 7) (b := !(decide ((0 : Int) ≤ a ∧ (a : Int) ≤ 4))) rfl rfl rfl q8 (o_buildSlice (info := Try.t56) (z := .float .f32 0) [(.float .f32 u), (.float .f32 v)] Try.underlying24 Try.type56 rfl rfl rfl rfl (by decide) rfl rfl (by simp [Value.oneCell'])) ?_
    rintro _ _ ⟨b11, hf12, hw13, rfl, rfl⟩
    have fz17 := Ext.none ehx5 hf12
    have ne18 := ne_of_free hb6 hf12
    have hb16 : (sg s4 b11 (56, [(.float .f32 u), (.float .f32 v)])) b11 = some (56, [(.float .f32 u), (.float .f32 v)]) := sg_eq _ _ _
    have hx15 : Ext s4 (sg s4 b11 (56, [(.float .f32 u), (.float .f32 v)])) := (Ext.refl _).sg hf12
    have hb19 := hx15 _ _ hb6
    have ehx15 := Ext.trans ehx5 hx15
    generalize hgs14 : sg s4 b11 (56, [(.float .f32 u), (.float .f32 v)]) = s14 at *
    clear hgs14
    refine L.gv (j := 4) (d₁ := 7) (b := !(decide ((0 : Int) ≤ a ∧ (a : Int) ≤ 4))) rfl rfl rfl q8 (v := (.bool (finB u && finB v))) (op_call [(.slice (some ⟨b11, 0, none⟩) 2 2)] Try.call69 rfl (areFin2 b11 0 u v (Sl.of (e := 56) (f := fl) (xs := [u, v]) hb16 (by simp [fl])))) ?_
    refine L.gv (j := 4) (d₁ := 7) (b := !(decide ((0 : Int) ≤ a ∧ (a : Int) ≤ 4))) rfl rfl rfl q8 (o_not (b := finB u && finB v) rfl rfl) ?_
    refine L.v (o_pickF (b := !(decide ((0 : Int) ≤ a ∧ (a : Int) ≤ 4))) (v := (.bool (!(finB u && finB v)))) rfl q8 rfl) ?_
    refine L.nil ?_
    refine W.cond (b := !(finB u && finB v)) rfl (fun q20 => ?_) (fun q20 => ?_)
    ·
      refine W.seq ?_
      refine W.region ?_
      refine L.v (o_assign (v := (.bool false)) rfl) ?_
      refine L.nil ?_
      refine W.ret ?_
      exact RetK.one σ (.bool false) rfl rfl ehx15 ⟨by first | rfl | (unfold elOk; cases hfu : finB u <;> cases hfv : finB v <;> by_cases h0 : 0 ≤ a ∧ a ≤ 4 <;> by_cases h1 : a = 1 <;> by_cases h2 : a = 2 <;> simp_all <;> omega), rfl⟩
    ·
      refine W.skip ?_
      refine W.seq ?_
      refine W.region ?_
      refine L.v (o_fieldAddr (b := b1) (off := 0) (o := 0) (run_fieldAt (f := 0) (fld := { name := "Kind", type := 2, offset := 0, embedded := false, tag := "", pkgPath := "", byteOffset := 0 }) Try.underlying68 rfl Try.sizeOf2 (Nat.succ_ne_zero _)) rfl) ?_
      refine L.v (o_load (b := b1) (off := 0 + 0) (v := (.int .i64 a)) Try.isAgg2 rfl (Rd.of hb19 rfl) rfl) ?_
      refine L.v (o_ineq (a := a) (b := 1) rfl rfl rfl) ?_
      refine L.v (o_move (v := (.bool (!decide ((a : Int) = 1)))) rfl) ?_
      rcases Bool.eq_false_or_eq_true (!decide ((a : Int) = 1)) with q21 | q21
      ·
        have a22 : ¬ ((a : Int) = 1) := of_decide_eq_false (bn_t q21)
        refine L.gF (j := 3) (d₁ := 19) (b := !decide ((a : Int) = 1)) rfl rfl rfl q21 ?_
        refine L.gF (j := 3) (d₁ := 19) (b := !decide ((a : Int) = 1)) rfl rfl rfl q21 ?_
        refine L.gF (j := 3) (d₁ := 19) (b := !decide ((a : Int) = 1)) rfl rfl rfl q21 ?_
        refine L.v (o_pickT (b := !decide ((a : Int) = 1)) (v := (.bool true)) rfl q21 rfl) ?_
        refine L.v (o_move (v := (.bool true)) rfl) ?_
        refine L.gv (j := 8) (d₁ := 24) (b := true) rfl rfl rfl rfl (o_fieldAddr (b := b1) (off := 0) (o := 0) (run_fieldAt (f := 0) (fld := { name := "Kind", type := 2, offset := 0, embedded := false, tag := "", pkgPath := "", byteOffset := 0 }) Try.underlying68 rfl Try.sizeOf2 (Nat.succ_ne_zero _)) rfl) ?_
        refine L.gv (j := 8) (d₁ := 24) (b := true) rfl rfl rfl rfl (o_load (b := b1) (off := 0 + 0) (v := (.int .i64 a)) Try.isAgg2 rfl (Rd.of hb19 rfl) rfl) ?_
        refine L.gv (j := 8) (d₁ := 24) (b := true) rfl rfl rfl rfl (o_ineq (a := a) (b := 2) rfl rfl rfl) ?_
        refine L.gv (j := 8) (d₁ := 24) (b := true) rfl rfl rfl rfl (o_move (v := (.bool (!decide ((a : Int) = 2)))) rfl) ?_
        rcases Bool.eq_false_or_eq_true (!decide ((a : Int) = 2)) with q23 | q23
        ·
          have a24 : ¬ ((a : Int) = 2) := of_decide_eq_false (bn_t q23)
          refine L.gF (j := 12) (d₁ := 28) (b := !decide ((a : Int) = 2)) rfl rfl rfl q23 ?_
          refine L.gF (j := 12) (d₁ := 28) (b := !decide ((a : Int) = 2)) rfl rfl rfl q23 ?_
          refine L.gF (j := 12) (d₁ := 28) (b := !decide ((a : Int) = 2)) rfl rfl rfl q23 ?_
          refine L.gv (j := 8) (d₁ := 24) (b := true) rfl rfl rfl rfl (o_pickT (b := !decide ((a : Int) = 2)) (v := (.bool true)) rfl q23 rfl) ?_
          refine L.v (o_pickT (b := true) (v := (.bool true)) rfl rfl rfl) ?_
          refine L.v (o_assign (v := (.bool true)) rfl) ?_
          refine L.nil ?_
          refine W.ret ?_
          exact RetK.one σ (.bool true) rfl rfl ehx15 ⟨by first | rfl | (unfold elOk; cases hfu : finB u <;> cases hfv : finB v <;> by_cases h0 : 0 ≤ a ∧ a ≤ 4 <;> by_cases h1 : a = 1 <;> by_cases h2 : a = 2 <;> simp_all <;> omega), rfl⟩
        ·
          have a25 : (a : Int) = 2 := of_decide_eq_true (bn_f q23)
          refine L.gv (j := 12) (d₁ := 28) (b := !decide ((a : Int) = 2)) rfl rfl rfl q23 (o_fieldAddr (b := b1) (off := 0) (o := 1) (run_fieldAt (f := 1) (fld := { name := "Number", type := 56, offset := 1, embedded := false, tag := "", pkgPath := "", byteOffset := 8 }) Try.underlying68 rfl Try.sizeOf56 (Nat.succ_ne_zero _)) rfl) ?_
          refine L.gv (j := 12) (d₁ := 28) (b := !decide ((a : Int) = 2)) rfl rfl rfl q23 (o_load (b := b1) (off := 0 + 1) (v := (.float .f32 u)) Try.isAgg56 rfl (Rd.of hb19 rfl) rfl) ?_
          refine L.gv (j := 12) (d₁ := 28) (b := !decide ((a : Int) = 2)) rfl rfl rfl q23 (o_fcmp (k := .f32) (a := u) (b := 0) rfl rfl rfl rfl) ?_
          refine L.gv (j := 8) (d₁ := 24) (b := true) rfl rfl rfl rfl (o_pickF (b := !decide ((a : Int) = 2)) (v := (.bool (fcmp .geq .f32 u 0))) rfl q23 rfl) ?_
          refine L.v (o_pickT (b := true) (v := (.bool (fcmp .geq .f32 u 0))) rfl rfl rfl) ?_
          refine L.v (o_assign (v := (.bool (fcmp .geq .f32 u 0))) rfl) ?_
          refine L.nil ?_
          refine W.ret ?_
          exact RetK.one σ (.bool (fcmp .geq .f32 u 0)) rfl rfl ehx15 ⟨by first | rfl | (unfold elOk; cases hfu : finB u <;> cases hfv : finB v <;> by_cases h0 : 0 ≤ a ∧ a ≤ 4 <;> by_cases h1 : a = 1 <;> by_cases h2 : a = 2 <;> simp_all <;> omega), rfl⟩
      ·
        have a26 : (a : Int) = 1 := of_decide_eq_true (bn_f q21)
        refine L.gv (j := 3) (d₁ := 19) (b := !decide ((a : Int) = 1)) rfl rfl rfl q21 (o_fieldAddr (b := b1) (off := 0) (o := 1) (run_fieldAt (f := 1) (fld := { name := "Number", type := 56, offset := 1, embedded := false, tag := "", pkgPath := "", byteOffset := 8 }) Try.underlying68 rfl Try.sizeOf56 (Nat.succ_ne_zero _)) rfl) ?_
        refine L.gv (j := 3) (d₁ := 19) (b := !decide ((a : Int) = 1)) rfl rfl rfl q21 (o_load (b := b1) (off := 0 + 1) (v := (.float .f32 u)) Try.isAgg56 rfl (Rd.of hb19 rfl) rfl) ?_
        refine L.gv (j := 3) (d₁ := 19) (b := !decide ((a : Int) = 1)) rfl rfl rfl q21 (o_fcmp (k := .f32) (a := u) (b := 0) rfl rfl rfl rfl) ?_
        refine L.v (o_pickF (b := !decide ((a : Int) = 1)) (v := (.bool (fcmp .neq .f32 u 0))) rfl q21 rfl) ?_
        refine L.v (o_move (v := (.bool (fcmp .neq .f32 u 0))) rfl) ?_
        rcases Bool.eq_false_or_eq_true (fcmp .neq .f32 u 0) with q27 | q27
        ·
          refine L.gv (j := 8) (d₁ := 24) (b := fcmp .neq .f32 u 0) rfl rfl rfl q27 (o_fieldAddr (b := b1) (off := 0) (o := 0) (run_fieldAt (f := 0) (fld := { name := "Kind", type := 2, offset := 0, embedded := false, tag := "", pkgPath := "", byteOffset := 0 }) Try.underlying68 rfl Try.sizeOf2 (Nat.succ_ne_zero _)) rfl) ?_
          refine L.gv (j := 8) (d₁ := 24) (b := fcmp .neq .f32 u 0) rfl rfl rfl q27 (o_load (b := b1) (off := 0 + 0) (v := (.int .i64 a)) Try.isAgg2 rfl (Rd.of hb19 rfl) rfl) ?_
          refine L.gv (j := 8) (d₁ := 24) (b := fcmp .neq .f32 u 0) rfl rfl rfl q27 (o_ineq (a := a) (b := 2) rfl rfl rfl) ?_
          refine L.gv (j := 8) (d₁ := 24) (b := fcmp .neq .f32 u 0) rfl rfl rfl q27 (o_move (v := (.bool (!decide ((a : Int) = 2)))) rfl) ?_
          rcases Bool.eq_false_or_eq_true (!decide ((a : Int) = 2)) with q28 | q28
          ·
            have a29 : ¬ ((a : Int) = 2) := of_decide_eq_false (bn_t q28)
            refine L.gF (j := 12) (d₁ := 28) (b := !decide ((a : Int) = 2)) rfl rfl rfl q28 ?_
            refine L.gF (j := 12) (d₁ := 28) (b := !decide ((a : Int) = 2)) rfl rfl rfl q28 ?_
            refine L.gF (j := 12) (d₁ := 28) (b := !decide ((a : Int) = 2)) rfl rfl rfl q28 ?_
            refine L.gv (j := 8) (d₁ := 24) (b := fcmp .neq .f32 u 0) rfl rfl rfl q27 (o_pickT (b := !decide ((a : Int) = 2)) (v := (.bool true)) rfl q28 rfl) ?_
            refine L.v (o_pickT (b := fcmp .neq .f32 u 0) (v := (.bool true)) rfl q27 rfl) ?_
            refine L.v (o_assign (v := (.bool true)) rfl) ?_
            refine L.nil ?_
            refine W.ret ?_
            exact RetK.one σ (.bool true) rfl rfl ehx15 ⟨by first | rfl | (unfold elOk; cases hfu : finB u <;> cases hfv : finB v <;> by_cases h0 : 0 ≤ a ∧ a ≤ 4 <;> by_cases h1 : a = 1 <;> by_cases h2 : a = 2 <;> simp_all <;> omega), rfl⟩
          ·
            have a30 : (a : Int) = 2 := of_decide_eq_true (bn_f q28)
            refine L.gv (j := 12) (d₁ := 28) (b := !decide ((a : Int) = 2)) rfl rfl rfl q28 (o_fieldAddr (b := b1) (off := 0) (o := 1) (run_fieldAt (f := 1) (fld := { name := "Number", type := 56, offset := 1, embedded := false, tag := "", pkgPath := "", byteOffset := 8 }) Try.underlying68 rfl Try.sizeOf56 (Nat.succ_ne_zero _)) rfl) ?_
            refine L.gv (j := 12) (d₁ := 28) (b := !decide ((a : Int) = 2)) rfl rfl rfl q28 (o_load (b := b1) (off := 0 + 1) (v := (.float .f32 u)) Try.isAgg56 rfl (Rd.of hb19 rfl) rfl) ?_
            refine L.gv (j := 12) (d₁ := 28) (b := !decide ((a : Int) = 2)) rfl rfl rfl q28 (o_fcmp (k := .f32) (a := u) (b := 0) rfl rfl rfl rfl) ?_
            refine L.gv (j := 8) (d₁ := 24) (b := fcmp .neq .f32 u 0) rfl rfl rfl q27 (o_pickF (b := !decide ((a : Int) = 2)) (v := (.bool (fcmp .geq .f32 u 0))) rfl q28 rfl) ?_
            refine L.v (o_pickT (b := fcmp .neq .f32 u 0) (v := (.bool (fcmp .geq .f32 u 0))) rfl q27 rfl) ?_
            refine L.v (o_assign (v := (.bool (fcmp .geq .f32 u 0))) rfl) ?_
            refine L.nil ?_
            refine W.ret ?_
            exact RetK.one σ (.bool (fcmp .geq .f32 u 0)) rfl rfl ehx15 ⟨by first | rfl | (unfold elOk; cases hfu : finB u <;> cases hfv : finB v <;> by_cases h0 : 0 ≤ a ∧ a ≤ 4 <;> by_cases h1 : a = 1 <;> by_cases h2 : a = 2 <;> simp_all <;> omega), rfl⟩
        ·
          refine L.gF (j := 8) (d₁ := 24) (b := fcmp .neq .f32 u 0) rfl rfl rfl q27 ?_
          refine L.gF (j := 8) (d₁ := 24) (b := fcmp .neq .f32 u 0) rfl rfl rfl q27 ?_
          refine L.gF (j := 8) (d₁ := 24) (b := fcmp .neq .f32 u 0) rfl rfl rfl q27 ?_
          refine L.gF (j := 8) (d₁ := 24) (b := fcmp .neq .f32 u 0) rfl rfl rfl q27 ?_
          refine L.gU (j := 12) (d₁ := 28) rfl rfl rfl ?_
          refine L.gU (j := 12) (d₁ := 28) rfl rfl rfl ?_
          refine L.gU (j := 12) (d₁ := 28) rfl rfl rfl ?_
          refine L.gF (j := 8) (d₁ := 24) (b := fcmp .neq .f32 u 0) rfl rfl rfl q27 ?_
          refine L.v (o_pickF (b := fcmp .neq .f32 u 0) (v := (.bool false)) rfl q27 rfl) ?_
          refine L.v (o_assign (v := (.bool false)) rfl) ?_
          refine L.nil ?_
          refine W.ret ?_
          exact RetK.one σ (.bool false) rfl rfl ehx15 ⟨by first | rfl | (unfold elOk; cases hfu : finB u <;> cases hfv : finB v <;> by_cases h0 : 0 ≤ a ∧ a ≤ 4 <;> by_cases h1 : a = 1 <;> by_cases h2 : a = 2 <;> simp_all <;> omega), rfl⟩

theorem implBad {w0 : World} {σ : Sg} (a : Int) (u v : Nat) :
    FnV Try.prog w0 55 [(.agg #[(.int .i64 a), (.float .f32 u), (.float .f32 v)])] σ (.bool (!elOk a u v)) := by
  unfold FnV
  refine Fn.of_W 6 Try.func55 rfl Try.ntmps55 rfl ?_
  refine W.seq ?_
  refine W.region ?_
  refine L.cons (o_box (v := (.agg #[(.int .i64 a), (.float .f32 u), (.float .f32 v)])) rfl rfl [(.int .i64 a), (.float .f32 u), (.float .f32 v)] rfl) ?_
  rintro _ _ ⟨b1, hf2, hw3, rfl, rfl⟩
  have fz7 := Ext.none (Ext.refl _) hf2
  have hb6 : (sg σ b1 (68, [(.int .i64 a), (.float .f32 u), (.float .f32 v)])) b1 = some (68, [(.int .i64 a), (.float .f32 u), (.float .f32 v)]) := sg_eq _ _ _
  have hx5 : Ext σ (sg σ b1 (68, [(.int .i64 a), (.float .f32 u), (.float .f32 v)])) := (Ext.refl _).sg hf2
  have ehx5 := Ext.trans (Ext.refl _) hx5
  generalize hgs4 : sg σ b1 (68, [(.int .i64 a), (.float .f32 u), (.float .f32 v)]) = s4 at *
  clear hgs4
  refine L.v (o_assign (v := (.bool false)) rfl) ?_
  refine L.nil ?_
  refine W.seq ?_
  refine W.region ?_
  refine L.v (o_loads (b := b1) (off := 0) (vs := [(.int .i64 a), (.float .f32 u), (.float .f32 v)]) Try.isAgg68 Try.sizeOf68 rfl rfl (Rds.of hb6 (by intro j v hj; simpa using hj))) ?_
  refine L.v (v := (.bool (elOk a u v))) (op_call [(.agg #[(.int .i64 a), (.float .f32 u), (.float .f32 v)])] Try.call56 rfl (implEl a u v)) ?_
  refine L.v (o_not (b := elOk a u v) rfl rfl) ?_
  refine L.v (o_assign (v := (.bool (!(elOk a u v)))) rfl) ?_
  refine L.nil ?_
  refine W.ret ?_
  exact RetK.one σ (.bool (!(elOk a u v))) rfl rfl ehx5 ⟨rfl, rfl⟩

theorem specEl {w0 : World} {σ : Sg} (b off : Nat) (a : Int) (u v : Nat) (hr : Rds σ b off [.int .i64 a, .float .f32 u, .float .f32 v]) :
    FnV Try.prog w0 67 [(.pointer (some ⟨b, off, none⟩))] σ (.bool (elOk a u v)) := by
  unfold FnV
  refine Fn.of_W 43 Try.func67 rfl Try.ntmps67 rfl ?_
  refine W.seq ?_
  refine W.region ?_
  refine L.v (o_assign (v := (.bool false)) rfl) ?_
  refine L.nil ?_
  refine W.seq ?_
  refine W.seq ?_
  refine W.region ?_
  refine L.v (o_move (v := (.pointer (some ⟨b, off, none⟩))) rfl) ?_
  refine L.v (o_nilCheck (p := ⟨b, off, none⟩) rfl) ?_
  refine L.v (o_fieldAddr (b := b) (off := off) (o := 0) (run_fieldAt (f := 0) (fld := { name := "Kind", type := 2, offset := 0, embedded := false, tag := "", pkgPath := "", byteOffset := 0 }) Try.underlying68 rfl Try.sizeOf2 (Nat.succ_ne_zero _)) rfl) ?_
  refine L.v (o_load (b := b) (off := off + 0) (v := (.int .i64 a)) Try.isAgg2 rfl (hr 0 _ rfl) rfl) ?_
  refine L.v (v := (.bool (decide ((0 : Int) ≤ a ∧ (a : Int) ≤ 4)))) (op_call [(.int .i64 a), (.int .i64 0), (.int .i64 4)] Try.call38 rfl (withinS a 0 4)) ?_
  refine L.v (o_not (b := decide ((0 : Int) ≤ a ∧ (a : Int) ≤ 4)) rfl rfl) ?_
  refine L.v (o_move (v := (.bool (!(decide ((0 : Int) ≤ a ∧ (a : Int) ≤ 4))))) rfl) ?_
  rcases Bool.eq_false_or_eq_true (!(decide ((0 : Int) ≤ a ∧ (a : Int) ≤ 4))) with q1 | q1
  ·
    have a2 : ¬ ((0 : Int) ≤ a ∧ (a : Int) ≤ 4) := of_decide_eq_false (bn_t q1)
    refine L.gF (j := 6) (d₁ := 9) (b := !(decide ((0 : Int) ≤ a ∧ (a : Int) ≤ 4))) rfl rfl rfl q1 ?_
    refine L.gF (j := 6) (d₁ := 9) (b := !(decide ((0 : Int) ≤ a ∧ (a : Int) ≤ 4))) rfl rfl rfl q1 ?_
    refine L.gF (j := 6) (d₁ := 9) (b := !(decide ((0 : Int) ≤ a ∧ (a : Int) ≤ 4))) rfl rfl rfl q1 ?_
    refine L.gF (j := 6) (d₁ := 9) (b := !(decide ((0 : Int) ≤ a ∧ (a : Int) ≤ 4))) rfl rfl rfl q1 ?_
    refine L.gF (j := 6) (d₁ := 9) (b := !(decide ((0 : Int) ≤ a ∧ (a : Int) ≤ 4))) rfl rfl rfl q1 ?_
    refine L.gF (j := 6) (d₁ := 9) (b := !(decide ((0 : Int) ≤ a ∧ (a : Int) ≤ 4))) rfl rfl rfl q1 ?_
    refine L.v (o_pickT (b := !(decide ((0 : Int) ≤ a ∧ (a : Int) ≤ 4))) (v := (.bool true)) rfl q1 rfl) ?_
    refine L.v (o_move (v := (.bool true)) rfl) ?_
    refine L.gF (j := 14) (d₁ := 17) (b := true) rfl rfl rfl rfl ?_
    refine L.gF (j := 14) (d₁ := 17) (b := true) rfl rfl rfl rfl ?_
    refine L.gF (j := 14) (d₁ := 17) (b := true) rfl rfl rfl rfl ?_
    refine L.gF (j := 14) (d₁ := 17) (b := true) rfl rfl rfl rfl ?_
    refine L.gF (j := 14) (d₁ := 17) (b := true) rfl rfl rfl rfl ?_
    refine L.gF (j := 14) (d₁ := 17) (b := true) rfl rfl rfl rfl ?_
    refine L.v (o_pickT (b := true) (v := (.bool true)) rfl rfl rfl) ?_
    refine L.nil ?_
    refine W.condT (b := true) rfl rfl ?_
    refine W.seq ?_
    refine W.region ?_
    refine L.v (o_assign (v := (.bool false)) rfl) ?_
    refine L.nil ?_
    refine W.ret ?_
    exact RetK.one σ (.bool false) rfl rfl (Ext.refl _) ⟨by first | rfl | (unfold elOk; cases hfu : finB u <;> cases hfv : finB v <;> by_cases h0 : 0 ≤ a ∧ a ≤ 4 <;> by_cases h1 : a = 1 <;> by_cases h2 : a = 2 <;> simp_all <;> omega), rfl⟩
  ·
    have a3 : (0 : Int) ≤ a ∧ (a : Int) ≤ 4 := of_decide_eq_true (bn_f q1)
    refine L.gv (j := 6) (d₁ := 9) (b := !(decide ((0 : Int) ≤ a ∧ (a : Int) ≤ 4))) rfl rfl rfl q1 (o_move (v := (.pointer (some ⟨b, off, none⟩))) rfl) ?_
    refine L.gv (j := 6) (d₁ := 9) (b := !(decide ((0 : Int) ≤ a ∧ (a : Int) ≤ 4))) rfl rfl rfl q1 (o_nilCheck (p := ⟨b, off, none⟩) rfl) ?_
    refine L.gv (j := 6) (d₁ := 9) (b := !(decide ((0 : Int) ≤ a ∧ (a : Int) ≤ 4))) rfl rfl rfl q1 (o_fieldAddr (b := b) (off := off) (o := 1) (run_fieldAt (f := 1) (fld := { name := "Number", type := 56, offset := 1, embedded := false, tag := "", pkgPath := "", byteOffset := 8 }) Try.underlying68 rfl Try.sizeOf56 (Nat.succ_ne_zero _)) rfl) ?_
    refine L.gv (j := 6) (d₁ := 9) (b := !(decide ((0 : Int) ≤ a ∧ (a : Int) ≤ 4))) rfl rfl rfl q1 (o_load (b := b) (off := off + 1) (v := (.float .f32 u)) Try.isAgg56 rfl (hr 1 _ rfl) rfl) ?_
    refine L.gv (j := 6) (d₁ := 9) (b := !(decide ((0 : Int) ≤ a ∧ (a : Int) ≤ 4))) rfl rfl rfl q1 (v := (.bool (finB u))) (op_call [(.float .f32 u)] Try.call75 rfl (specFin u)) ?_
    refine L.gv (j := 6) (d₁ := 9) (b := !(decide ((0 : Int) ≤ a ∧ (a : Int) ≤ 4))) rfl rfl rfl q1 (o_not (b := finB u) rfl rfl) ?_
    refine L.v (o_pickF (b := !(decide ((0 : Int) ≤ a ∧ (a : Int) ≤ 4))) (v := (.bool (!(finB u)))) rfl q1 rfl) ?_
    refine L.v (o_move (v := (.bool (!(finB u)))) rfl) ?_
    rcases Bool.eq_false_or_eq_true (!(finB u)) with q4 | q4
    ·
      refine L.gF (j := 14) (d₁ := 17) (b := !(finB u)) rfl rfl rfl q4 ?_
      refine L.gF (j := 14) (d₁ := 17) (b := !(finB u)) rfl rfl rfl q4 ?_
      refine L.gF (j := 14) (d₁ := 17) (b := !(finB u)) rfl rfl rfl q4 ?_
      refine L.gF (j := 14) (d₁ := 17) (b := !(finB u)) rfl rfl rfl q4 ?_
      refine L.gF (j := 14) (d₁ := 17) (b := !(finB u)) rfl rfl rfl q4 ?_
      refine L.gF (j := 14) (d₁ := 17) (b := !(finB u)) rfl rfl rfl q4 ?_
      refine L.v (o_pickT (b := !(finB u)) (v := (.bool true)) rfl q4 rfl) ?_
      refine L.nil ?_
      refine W.condT (b := true) rfl rfl ?_
      refine W.seq ?_
      refine W.region ?_
      refine L.v (o_assign (v := (.bool false)) rfl) ?_
      refine L.nil ?_
      refine W.ret ?_
      exact RetK.one σ (.bool false) rfl rfl (Ext.refl _) ⟨by first | rfl | (unfold elOk; cases hfu : finB u <;> cases hfv : finB v <;> by_cases h0 : 0 ≤ a ∧ a ≤ 4 <;> by_cases h1 : a = 1 <;> by_cases h2 : a = 2 <;> simp_all <;> omega), rfl⟩
    ·
      refine L.gv (j := 14) (d₁ := 17) (b := !(finB u)) rfl rfl rfl q4 (o_move (v := (.pointer (some ⟨b, off, none⟩))) rfl) ?_
      refine L.gv (j := 14) (d₁ := 17) (b := !(finB u)) rfl rfl rfl q4 (o_nilCheck (p := ⟨b, off, none⟩) rfl) ?_
      refine L.gv (j := 14) (d₁ := 17) (b := !(finB u)) rfl rfl rfl q4 (o_fieldAddr (b := b) (off := off) (o := 2) (run_fieldAt (f := 2) (fld := { name := "Phase", type := 56, offset := 2, embedded := false, tag := "", pkgPath := "", byteOffset := 12 }) Try.underlying68 rfl Try.sizeOf56 (Nat.succ_ne_zero _)) rfl) ?_
      refine L.gv (j := 14) (d₁ := 17) (b := !(finB u)) rfl rfl rfl q4 (o_load (b := b) (off := off + 2) (v := (.float .f32 v)) Try.isAgg56 rfl (hr 2 _ rfl) rfl) ?_
      refine L.gv (j := 14) (d₁ := 17) (b := !(finB u)) rfl rfl rfl q4 (v := (.bool (finB v))) (op_call [(.float .f32 v)] Try.call75 rfl (specFin v)) ?_
      refine L.gv (j := 14) (d₁ := 17) (b := !(finB u)) rfl rfl rfl q4 (o_not (b := finB v) rfl rfl) ?_
      refine L.v (o_pickF (b := !(finB u)) (v := (.bool (!(finB v)))) rfl q4 rfl) ?_
      refine L.nil ?_
      refine W.cond (b := !(finB v)) rfl (fun q5 => ?_) (fun q5 => ?_)
      ·
        refine W.seq ?_
        refine W.region ?_
        refine L.v (o_assign (v := (.bool false)) rfl) ?_
        refine L.nil ?_
        refine W.ret ?_
        exact RetK.one σ (.bool false) rfl rfl (Ext.refl _) ⟨by first | rfl | (unfold elOk; cases hfu : finB u <;> cases hfv : finB v <;> by_cases h0 : 0 ≤ a ∧ a ≤ 4 <;> by_cases h1 : a = 1 <;> by_cases h2 : a = 2 <;> simp_all <;> omega), rfl⟩
      ·
        refine W.skip ?_
        refine W.seq ?_
        refine W.seq ?_
        refine W.region ?_
        refine L.v (o_move (v := (.pointer (some ⟨b, off, none⟩))) rfl) ?_
        refine L.v (o_nilCheck (p := ⟨b, off, none⟩) rfl) ?_
        refine L.v (o_fieldAddr (b := b) (off := off) (o := 0) (run_fieldAt (f := 0) (fld := { name := "Kind", type := 2, offset := 0, embedded := false, tag := "", pkgPath := "", byteOffset := 0 }) Try.underlying68 rfl Try.sizeOf2 (Nat.succ_ne_zero _)) rfl) ?_
        refine L.v (o_load (b := b) (off := off + 0) (v := (.int .i64 a)) Try.isAgg2 rfl (hr 0 _ rfl) rfl) ?_
        refine L.nil ?_
        refine W.block ?_
        refine W.seq ?_
        refine W.region ?_
        refine L.v (o_ieql (a := a) (b := 1) rfl rfl rfl) ?_
        refine L.v (o_assign (v := (.bool (decide ((a : Int) = 1)))) rfl) ?_
        refine L.nil ?_
        refine W.cond (b := decide ((a : Int) = 1)) rfl (fun q6 => ?_) (fun q6 => ?_)
        ·
          have a7 : (a : Int) = 1 := of_decide_eq_true q6
          refine W.seq ?_
          refine W.region ?_
          refine L.v (o_move (v := (.pointer (some ⟨b, off, none⟩))) rfl) ?_
          refine L.v (o_nilCheck (p := ⟨b, off, none⟩) rfl) ?_
          refine L.v (o_fieldAddr (b := b) (off := off) (o := 1) (run_fieldAt (f := 1) (fld := { name := "Number", type := 56, offset := 1, embedded := false, tag := "", pkgPath := "", byteOffset := 8 }) Try.underlying68 rfl Try.sizeOf56 (Nat.succ_ne_zero _)) rfl) ?_
          refine L.v (o_load (b := b) (off := off + 1) (v := (.float .f32 u)) Try.isAgg56 rfl (hr 1 _ rfl) rfl) ?_
          refine L.v (o_fcmp (k := .f32) (a := u) (b := 0) rfl rfl rfl rfl) ?_
          refine L.v (o_assign (v := (.bool (fcmp .neq .f32 u 0))) rfl) ?_
          refine L.nil ?_
          refine W.ret ?_
          exact RetK.one σ (.bool (fcmp .neq .f32 u 0)) rfl rfl (Ext.refl _) ⟨by first | rfl | (unfold elOk; cases hfu : finB u <;> cases hfv : finB v <;> by_cases h0 : 0 ≤ a ∧ a ≤ 4 <;> by_cases h1 : a = 1 <;> by_cases h2 : a = 2 <;> simp_all <;> omega), rfl⟩
        ·
          have a8 : ¬ ((a : Int) = 1) := of_decide_eq_false q6
          refine W.seq ?_
          refine W.region ?_
          refine L.v (o_ieql (a := a) (b := 2) rfl rfl rfl) ?_
          refine L.v (o_assign (v := (.bool (decide ((a : Int) = 2)))) rfl) ?_
          refine L.nil ?_
          refine W.cond (b := decide ((a : Int) = 2)) rfl (fun q9 => ?_) (fun q9 => ?_)
          ·
            have a10 : (a : Int) = 2 := of_decide_eq_true q9
            refine W.seq ?_
            refine W.region ?_
            refine L.v (o_move (v := (.pointer (some ⟨b, off, none⟩))) rfl) ?_
            refine L.v (o_nilCheck (p := ⟨b, off, none⟩) rfl) ?_
            refine L.v (o_fieldAddr (b := b) (off := off) (o := 1) (run_fieldAt (f := 1) (fld := { name := "Number", type := 56, offset := 1, embedded := false, tag := "", pkgPath := "", byteOffset := 8 }) Try.underlying68 rfl Try.sizeOf56 (Nat.succ_ne_zero _)) rfl) ?_
            refine L.v (o_load (b := b) (off := off + 1) (v := (.float .f32 u)) Try.isAgg56 rfl (hr 1 _ rfl) rfl) ?_
            refine L.v (o_fcmp (k := .f32) (a := u) (b := 0) rfl rfl rfl rfl) ?_
            refine L.v (o_assign (v := (.bool (fcmp .geq .f32 u 0))) rfl) ?_
            refine L.nil ?_
            refine W.ret ?_
            exact RetK.one σ (.bool (fcmp .geq .f32 u 0)) rfl rfl (Ext.refl _) ⟨by first | rfl | (unfold elOk; cases hfu : finB u <;> cases hfv : finB v <;> by_cases h0 : 0 ≤ a ∧ a ≤ 4 <;> by_cases h1 : a = 1 <;> by_cases h2 : a = 2 <;> simp_all <;> omega), rfl⟩
          ·
            have a11 : ¬ ((a : Int) = 2) := of_decide_eq_false q9
            refine W.skip ?_
            refine W.seq ?_
            refine W.region ?_
            refine L.v (o_assign (v := (.bool true)) rfl) ?_
            refine L.nil ?_
            refine W.ret ?_
            exact RetK.one σ (.bool true) rfl rfl (Ext.refl _) ⟨by first | rfl | (unfold elOk; cases hfu : finB u <;> cases hfv : finB v <;> by_cases h0 : 0 ≤ a ∧ a ≤ 4 <;> by_cases h1 : a = 1 <;> by_cases h2 : a = 2 <;> simp_all <;> omega), rfl⟩

theorem specLine {w0 : World} {σ : Sg} (p : Option Addr) (c : Nat) (xs : List (Int × Nat × Nat)) (hs : Sl σ 3 p (xs.map el)) (hn : xs.length ≤ 1048576) :
    FnV Try.prog w0 52 [(.slice p xs.length c)] σ (.bool (lineOk xs)) := by
  unfold FnV
  refine Fn.of_W 18 Try.func52 rfl Try.ntmps52 rfl ?_
  refine W.seq ?_
  refine W.region ?_
  refine L.v (o_assign (v := (.bool false)) rfl) ?_
  refine L.nil ?_
  refine W.seq ?_
  refine W.seq ?_
  refine W.region ?_
  refine L.v (o_move (v := (.slice p xs.length c)) rfl) ?_
  refine L.v (o_len (p := p) (n := xs.length) (c := c) Try.underlying44 rfl) ?_
  refine L.v (o_move (v := (.int .i64 0)) rfl) ?_
  refine L.nil ?_
  refine W.block ?_
  refine W.loop (fun nn tt ss => ∃ (i : Nat), nn = xs.length - i ∧ (i ≤ xs.length) ∧ ((xs.take i).all okE = true) ∧ FrOk tt [(0, (.slice p xs.length c)), (5, (.int .i64 (xs.length : Int))), (6, (.int .i64 (i : Int)))] ∧ σ = ss) _ ⟨0, rfl, (by omega), (by simp), ⟨rfl, rfl, rfl, trivial⟩, rfl⟩ ?_
  rintro _ t1 _ ⟨i, rfl, hi, hok, f2, rfl⟩
  rw [← frame_ok f2]
  show W _ _ _ _ _ (upd (upd (upd t1 0 (.slice p xs.length c)) 5 (.int .i64 (xs.length : Int))) 6 (.int .i64 (i : Int))) _
  refine W.seq ?_
  refine W.region ?_
  refine L.v (o_ilss (a := (i : Int)) (b := (xs.length : Int)) rfl rfl rfl) ?_
  refine L.nil ?_
  refine W.seq ?_
  refine W.cond (b := decide (((i : Int) : Int) < (xs.length : Int))) rfl (fun q3 => ?_) (fun q3 => ?_)
  ·
    have a4 : ((i : Int) : Int) < (xs.length : Int) := of_decide_eq_true q3
    refine W.skip ?_
    refine W.seq ?_
    refine W.block ?_
    refine W.seq ?_
    refine W.region ?_
    refine L.v (o_move (v := (.int .i64 (i : Int))) rfl) ?_
    refine L.v (o_assign (v := (.int .i64 (i : Int))) rfl) ?_
    refine L.nil ?_
    refine W.seq ?_
    obtain ⟨b5, o6, rfl, _⟩ := hs.elem i (by omega) (0, 0, 0)
    refine W.region ?_
    refine L.v (o_move (v := (.slice (some ⟨b5, o6, none⟩) xs.length c)) rfl) ?_
    refine L.v (o_move (v := (.int .i64 (i : Int))) rfl) ?_
    refine L.v (o_indexAddr (b := b5) (off := o6) (n := xs.length) (c := c) i Try.underlying44 Try.sizeOf68 rfl rfl (by omega)) ?_
    refine L.v (v := (.bool (elOk ((xs.getD i (0, 0, 0)).1) ((xs.getD i (0, 0, 0)).2.1) ((xs.getD i (0, 0, 0)).2.2)))) (op_call [(.pointer (some ⟨b5, o6 + i * 3, none⟩))] Try.call67 rfl (specEl b5 (o6 + i * 3) ((xs.getD i (0, 0, 0)).1) ((xs.getD i (0, 0, 0)).2.1) ((xs.getD i (0, 0, 0)).2.2) (Sl.at hs i (by omega) (0, 0, 0)))) ?_
    refine L.v (o_not (b := elOk ((xs.getD i (0, 0, 0)).1) ((xs.getD i (0, 0, 0)).2.1) ((xs.getD i (0, 0, 0)).2.2)) rfl rfl) ?_
    refine L.nil ?_
    refine W.cond (b := !(elOk ((xs.getD i (0, 0, 0)).1) ((xs.getD i (0, 0, 0)).2.1) ((xs.getD i (0, 0, 0)).2.2))) rfl (fun q7 => ?_) (fun q7 => ?_)
    ·
      refine W.seq ?_
      refine W.region ?_
      refine L.v (o_assign (v := (.bool false)) rfl) ?_
      refine L.nil ?_
      refine W.ret ?_
      exact RetK.one σ (.bool false) rfl rfl (Ext.refl _) ⟨by rw [lineOk, all_false (p := okE) (d := (0, 0, 0)) (i := i) (by omega) (bn_t q7)]; rfl, rfl⟩
    ·
      refine W.skip ?_
      refine W.region ?_
      refine L.v (o_iadd (a := (i : Int)) (b := 1) (c := ((i + 1 : Nat) : Int)) rfl rfl (by rw [IntWalk.i64_in _ (by omega)]; try omega)) ?_
      refine L.v (o_move (v := (.int .i64 (((i + 1 : Nat) : Int)))) rfl) ?_
      refine L.nil ?_
      exact ⟨_, (by omega), i + 1, rfl, (by omega), (all_take (p := okE) (d := (0, 0, 0)) (by omega) hok (bn_f q7)), ⟨rfl, rfl, rfl, trivial⟩, rfl⟩
  ·
    have a8 : ¬ (((i : Int) : Int) < (xs.length : Int)) := of_decide_eq_false q3
    refine W.exit ?_
    refine W.seq ?_
    refine W.region ?_
    refine L.v (o_move (v := (.slice p xs.length c)) rfl) ?_
    refine L.v (o_len (p := p) (n := xs.length) (c := c) Try.underlying44 rfl) ?_
    refine L.v (o_ileq (a := (xs.length : Int)) (b := 32) rfl rfl rfl) ?_
    refine L.v (o_assign (v := (.bool (decide (((xs.length : Int) : Int) ≤ 32)))) rfl) ?_
    refine L.nil ?_
    refine W.ret ?_
    obtain rfl : i = xs.length := by omega
    rw [List.take_length] at hok
    exact RetK.one σ (.bool (decide (((xs.length : Int) : Int) ≤ 32))) rfl rfl (Ext.refl _) ⟨by rw [lineOk, hok, Bool.true_and]; congr 1; exact decide_eq_decide.2 (by omega), rfl⟩

theorem specValid {w0 : World} {σ : Sg} (p : Option Addr) (c : Nat) (xs : List (Int × Nat × Nat)) (hs : Sl σ 3 p (xs.map el)) (hn : xs.length ≤ 1048576) :
    FnV Try.prog w0 25 [(.slice p xs.length c)] σ (.bool (lineOk xs)) := by
  unfold FnV
  refine Fn.of_W 5 Try.func25 rfl Try.ntmps25 rfl ?_
  refine W.seq ?_
  refine W.region ?_
  refine L.v (o_assign (v := (.bool false)) rfl) ?_
  refine L.nil ?_
  refine W.seq ?_
  refine W.region ?_
  refine L.v (o_move (v := (.slice p xs.length c)) rfl) ?_
  refine L.v (v := (.bool (lineOk xs))) (op_call [(.slice p xs.length c)] Try.call52 rfl (specLine p c xs hs (by omega))) ?_
  refine L.v (o_assign (v := (.bool (lineOk xs))) rfl) ?_
  refine L.nil ?_
  refine W.ret ?_
  exact RetK.one σ (.bool (lineOk xs)) rfl rfl (Ext.refl _) ⟨rfl, rfl⟩

theorem indexBad {w0 : World} {σ : Sg} (p : Option Addr) (c : Nat) (xs : List (Int × Nat × Nat)) (hs : Sl σ 3 p (xs.map el)) (hn : xs.length ≤ 1048576) :
    FnV Try.prog w0 68 [(.slice p xs.length c), (.func (.func 55) #[] #[])] σ (.int .i64 (badIx xs)) := by
  unfold FnV
  refine Fn.of_W 19 Try.func68 rfl Try.ntmps68 rfl ?_
  refine W.seq ?_
  refine W.region ?_
  refine L.v (o_assign (v := (.int .i64 0)) rfl) ?_
  refine L.nil ?_
  refine W.seq ?_
  refine W.seq ?_
  refine W.region ?_
  refine L.v (o_move (v := (.slice p xs.length c)) rfl) ?_
  refine L.v (o_len (p := p) (n := xs.length) (c := c) Try.underlying44 rfl) ?_
  refine L.v (o_move (v := (.int .i64 0)) rfl) ?_
  refine L.nil ?_
  refine W.block ?_
  refine W.loop (fun nn tt ss => ∃ (i : Nat), nn = xs.length - i ∧ (i ≤ xs.length) ∧ ((xs.take i).all okE = true) ∧ FrOk tt [(0, (.slice p xs.length c)), (1, (.func (.func 55) #[] #[])), (7, (.int .i64 (xs.length : Int))), (8, (.int .i64 (i : Int)))] ∧ σ = ss) _ ⟨0, rfl, (by omega), (by simp), ⟨rfl, rfl, rfl, rfl, trivial⟩, rfl⟩ ?_
  rintro _ t1 _ ⟨i, rfl, hi, hok, f2, rfl⟩
  rw [← frame_ok f2]
  show W _ _ _ _ _ (upd (upd (upd (upd t1 0 (.slice p xs.length c)) 1 (.func (.func 55) #[] #[])) 7 (.int .i64 (xs.length : Int))) 8 (.int .i64 (i : Int))) _
  refine W.seq ?_
  refine W.region ?_
  refine L.v (o_ilss (a := (i : Int)) (b := (xs.length : Int)) rfl rfl rfl) ?_
  refine L.nil ?_
  refine W.seq ?_
  refine W.cond (b := decide (((i : Int) : Int) < (xs.length : Int))) rfl (fun q3 => ?_) (fun q3 => ?_)
  ·
    have a4 : ((i : Int) : Int) < (xs.length : Int) := of_decide_eq_true q3
    refine W.skip ?_
    refine W.seq ?_
    refine W.block ?_
    refine W.seq ?_
    refine W.region ?_
    refine L.v (o_move (v := (.int .i64 (i : Int))) rfl) ?_
    refine L.v (o_assign (v := (.int .i64 (i : Int))) rfl) ?_
    refine L.nil ?_
    refine W.seq ?_
    obtain ⟨b5, o6, rfl, _⟩ := hs.elem i (by omega) (0, 0, 0)
    refine W.region ?_
    refine L.v (o_move (v := (.func (.func 55) #[] #[])) rfl) ?_
    refine L.v (o_move (v := (.slice (some ⟨b5, o6, none⟩) xs.length c)) rfl) ?_
    refine L.v (o_move (v := (.int .i64 (i : Int))) rfl) ?_
    refine L.v (o_indexAddr (b := b5) (off := o6) (n := xs.length) (c := c) i Try.underlying44 Try.sizeOf68 rfl rfl (by omega)) ?_
    refine L.v (o_loads (b := b5) (off := o6 + i * 3) (vs := [(.int .i64 ((xs.getD i (0, 0, 0)).1)), (.float .f32 ((xs.getD i (0, 0, 0)).2.1)), (.float .f32 ((xs.getD i (0, 0, 0)).2.2))]) Try.isAgg68 Try.sizeOf68 rfl rfl (Sl.at hs i (by omega) (0, 0, 0))) ?_
    refine L.v (v := .bool (!elOk ((xs.getD i (0, 0, 0)).1) ((xs.getD i (0, 0, 0)).2.1) ((xs.getD i (0, 0, 0)).2.2))) (op_callv [(.agg #[(.int .i64 ((xs.getD i (0, 0, 0)).1)), (.float .f32 ((xs.getD i (0, 0, 0)).2.1)), (.float .f32 ((xs.getD i (0, 0, 0)).2.2))])] rfl Try.call55 rfl (implBad ((xs.getD i (0, 0, 0)).1) ((xs.getD i (0, 0, 0)).2.1) ((xs.getD i (0, 0, 0)).2.2))) ?_
    refine L.nil ?_
    refine W.cond (b := !(elOk ((xs.getD i (0, 0, 0)).1) ((xs.getD i (0, 0, 0)).2.1) ((xs.getD i (0, 0, 0)).2.2))) rfl (fun q7 => ?_) (fun q7 => ?_)
    ·
      refine W.seq ?_
      refine W.region ?_
      refine L.v (o_move (v := (.int .i64 (i : Int))) rfl) ?_
      refine L.v (o_assign (v := (.int .i64 (i : Int))) rfl) ?_
      refine L.nil ?_
      refine W.ret ?_
      exact RetK.one σ (.int .i64 (i : Int)) rfl rfl (Ext.refl _) ⟨by rw [badIx_at (by omega) hok (bn_t q7)], rfl⟩
    ·
      refine W.skip ?_
      refine W.region ?_
      refine L.v (o_iadd (a := (i : Int)) (b := 1) (c := ((i + 1 : Nat) : Int)) rfl rfl (by rw [IntWalk.i64_in _ (by omega)]; try omega)) ?_
      refine L.v (o_move (v := (.int .i64 (((i + 1 : Nat) : Int)))) rfl) ?_
      refine L.nil ?_
      exact ⟨_, (by omega), i + 1, rfl, (by omega), (all_take (p := okE) (d := (0, 0, 0)) (by omega) hok (bn_f q7)), ⟨rfl, rfl, rfl, rfl, trivial⟩, rfl⟩
  ·
    have a8 : ¬ (((i : Int) : Int) < (xs.length : Int)) := of_decide_eq_false q3
    refine W.exit ?_
    refine W.seq ?_
    refine W.region ?_
    refine L.v (o_assign (v := (.int .i64 (-1))) rfl) ?_
    refine L.nil ?_
    refine W.ret ?_
    obtain rfl : i = xs.length := by omega
    rw [List.take_length] at hok
    exact RetK.one σ (.int .i64 (-1)) rfl rfl (Ext.refl _) ⟨by rw [badIx_all hok], rfl⟩

theorem hasBad {w0 : World} {σ : Sg} (p : Option Addr) (c : Nat) (xs : List (Int × Nat × Nat)) (hs : Sl σ 3 p (xs.map el)) (hn : xs.length ≤ 1048576) :
    FnV Try.prog w0 54 [(.slice p xs.length c), (.func (.func 55) #[] #[])] σ (.bool (!xs.all okE)) := by
  unfold FnV
  refine Fn.of_W 9 Try.func54 rfl Try.ntmps54 rfl ?_
  refine W.seq ?_
  refine W.region ?_
  refine L.v (o_assign (v := (.bool false)) rfl) ?_
  refine L.nil ?_
  refine W.seq ?_
  refine W.region ?_
  refine L.v (o_move (v := (.slice p xs.length c)) rfl) ?_
  refine L.v (o_move (v := (.func (.func 55) #[] #[])) rfl) ?_
  refine L.v (v := (.int .i64 (badIx xs))) (op_call [(.slice p xs.length c), (.func (.func 55) #[] #[])] Try.call68 rfl (indexBad p c xs hs (by omega))) ?_
  refine L.v (o_igeq (a := badIx xs) (b := 0) rfl rfl rfl) ?_
  refine L.v (o_assign (v := (.bool (decide ((0 : Int) ≤ (badIx xs))))) rfl) ?_
  refine L.nil ?_
  refine W.ret ?_
  exact RetK.one σ (.bool (decide ((0 : Int) ≤ (badIx xs)))) rfl rfl (Ext.refl _) ⟨by rw [← badIx_dec], rfl⟩

theorem implValid {w0 : World} {σ : Sg} (p : Option Addr) (c : Nat) (xs : List (Int × Nat × Nat)) (hs : Sl σ 3 p (xs.map el)) (hn : xs.length ≤ 1048576) :
    FnV Try.prog w0 27 [(.slice p xs.length c)] σ (.bool (lineOk xs)) := by
  unfold FnV
  refine Fn.of_W 11 Try.func27 rfl Try.ntmps27 rfl ?_
  refine W.seq ?_
  refine W.region ?_
  refine L.v (o_assign (v := (.bool false)) rfl) ?_
  refine L.nil ?_
  refine W.seq ?_
  refine W.region ?_
  refine L.v (o_move (v := (.slice p xs.length c)) rfl) ?_
  refine L.v (o_len (p := p) (n := xs.length) (c := c) Try.underlying44 rfl) ?_
  refine L.v (o_ileq (a := (xs.length : Int)) (b := 32) rfl rfl rfl) ?_
  refine L.v (o_move (v := (.bool (decide (((xs.length : Int) : Int) ≤ 32)))) rfl) ?_
  rcases Bool.eq_false_or_eq_true (decide (((xs.length : Int) : Int) ≤ 32)) with q1 | q1
  ·
    have a2 : ((xs.length : Int) : Int) ≤ 32 := of_decide_eq_true q1
    refine L.gv (j := 3) (d₁ := 6) (b := decide (((xs.length : Int) : Int) ≤ 32)) rfl rfl rfl q1 (o_move (v := (.slice p xs.length c)) rfl) ?_
    refine L.gv (j := 3) (d₁ := 6) (b := decide (((xs.length : Int) : Int) ≤ 32)) rfl rfl rfl q1 (v := (.bool (!(xs.all okE)))) (op_call [(.slice p xs.length c), (.func (.func 55) #[] #[])] Try.call54 rfl (hasBad p c xs hs (by omega))) ?_
    refine L.gv (j := 3) (d₁ := 6) (b := decide (((xs.length : Int) : Int) ≤ 32)) rfl rfl rfl q1 (o_not (b := !(xs.all okE)) rfl rfl) ?_
    refine L.v (o_pickT (b := decide (((xs.length : Int) : Int) ≤ 32)) (v := (.bool (!(!(xs.all okE))))) rfl q1 rfl) ?_
    refine L.v (o_assign (v := (.bool (!(!(xs.all okE))))) rfl) ?_
    refine L.nil ?_
    refine W.ret ?_
    exact RetK.one σ (.bool (!(!(xs.all okE)))) rfl rfl (Ext.refl _) ⟨by first | (rw [lineOk]; simp_all; done) | (rw [lineOk]; simp [*]; done) | (rw [lineOk]; simp; omega), rfl⟩
  ·
    have a3 : ¬ (((xs.length : Int) : Int) ≤ 32) := of_decide_eq_false q1
    refine L.gF (j := 3) (d₁ := 6) (b := decide (((xs.length : Int) : Int) ≤ 32)) rfl rfl rfl q1 ?_
    refine L.gF (j := 3) (d₁ := 6) (b := decide (((xs.length : Int) : Int) ≤ 32)) rfl rfl rfl q1 ?_
    refine L.gF (j := 3) (d₁ := 6) (b := decide (((xs.length : Int) : Int) ≤ 32)) rfl rfl rfl q1 ?_
    refine L.v (o_pickF (b := decide (((xs.length : Int) : Int) ≤ 32)) (v := (.bool false)) rfl q1 rfl) ?_
    refine L.v (o_assign (v := (.bool false)) rfl) ?_
    refine L.nil ?_
    refine W.ret ?_
    exact RetK.one σ (.bool false) rfl rfl (Ext.refl _) ⟨by first | (rw [lineOk]; simp_all; done) | (rw [lineOk]; simp [*]; done) | (rw [lineOk]; simp; omega), rfl⟩

theorem lawValid {w0 : World} {σ : Sg} (p : Option Addr) (c : Nat) (xs : List (Int × Nat × Nat)) (hs : Sl σ 3 p (xs.map el)) (hm : xs.length ≤ maxLen) :
    Fn Try.prog w0 6 [(.slice p xs.length c)] σ (fun u _ => u = .bool true) := by
  refine Fn.of_W 27 Try.func6 rfl Try.ntmps6 rfl ?_
  refine W.seq ?_
  refine W.region ?_
  refine L.v (o_assign (v := (.bool false)) rfl) ?_
  refine L.nil ?_
  refine W.seq ?_
  refine W.region ?_
  refine L.v (o_assign (v := (.int .i64 1048576)) rfl) ?_
  refine L.nil ?_
  refine W.seq ?_
  refine W.region ?_
  refine L.v (o_move (v := (.slice p xs.length c)) rfl) ?_
  refine L.v (o_move (v := (.int .i64 1048576)) rfl) ?_
  refine L.v (v := (.int .i64 (szF 1048576 xs.length))) (op_call [(.slice p xs.length c), (.int .i64 1048576)] Try.call24 rfl (szElem_c p xs.length c 1048576 hm (by decide))) ?_
  refine L.v (o_assign (v := (.int .i64 (szF 1048576 xs.length))) rfl) ?_
  refine L.nil ?_
  refine W.seq ?_
  refine W.seq ?_
  refine W.region ?_
  refine L.v (o_move (v := (.int .i64 (szF 1048576 xs.length))) rfl) ?_
  refine L.v (o_ilss (a := szF 1048576 xs.length) (b := 0) rfl rfl rfl) ?_
  refine L.nil ?_
  refine W.cond (b := decide ((szF 1048576 xs.length : Int) < 0)) rfl (fun q1 => ?_) (fun q1 => ?_)
  ·
    have a2 : (szF 1048576 xs.length : Int) < 0 := of_decide_eq_true q1
    refine W.seq ?_
    refine W.region ?_
    refine L.v (o_assign (v := (.bool true)) rfl) ?_
    refine L.nil ?_
    refine W.ret ?_
    exact RetK.one _ (.bool true) rfl rfl (Ext.refl _) rfl
  ·
    have a3 : ¬ ((szF 1048576 xs.length : Int) < 0) := of_decide_eq_false q1
    refine W.skip ?_
    refine W.seq ?_
    have hlen : xs.length ≤ 1048576 := szF_ok (by assumption)
    refine W.region ?_
    refine L.v (o_move (v := (.slice p xs.length c)) rfl) ?_
    refine L.cons (op_call [(.slice p xs.length c)] Try.call26 rfl (toElemS p c xs hs (by omega))) ?_
    rintro _ s6 ⟨p4, rfl, fs7⟩
    have ap8 : Apart (xs.length) (xs.length) p4 p := by simpa using Fsl.apart fs7 hs (el_ne _)
    have hs9 := Sl.ext hs fs7.ext
    have ex10 := Ext.trans (Ext.refl σ) fs7.ext
    have mu11 := Fsl.mut fs7 (xs.length * 3) (by simp)
    refine L.v (v := (.bool (lineOk xs))) (op_call [(.slice p4 xs.length xs.length)] Try.call25 rfl (specValid p4 xs.length xs (Fsl.reads fs7) (by omega))) ?_
    refine L.v (o_assign (v := (.bool (lineOk xs))) rfl) ?_
    refine L.nil ?_
    refine W.seq ?_
    refine W.region ?_
    refine L.v (o_move (v := (.slice p xs.length c)) rfl) ?_
    refine L.cons (op_call [(.slice p xs.length c)] Try.call26 rfl (toElemS p c xs hs9 (by omega))) ?_
    rintro _ s14 ⟨p12, rfl, fs15⟩
    have ap16 : Apart (xs.length) (xs.length) p12 p := by simpa using Fsl.apart fs15 hs9 (el_ne _)
    have ap17 : Apart (xs.length) (xs.length) p12 p4 := by simpa using Fsl.apart fs15 (Fsl.reads fs7) (el_ne _)
    have hs18 := Sl.ext hs9 fs15.ext
    have hs19 := Sl.ext (Fsl.reads fs7) fs15.ext
    have mu20 := Mut.ext mu11 fs15.ext
    have ex21 := Ext.trans ex10 fs15.ext
    have mu22 := Fsl.mut fs15 (xs.length * 3) (by simp)
    refine L.v (o_assign (v := (.slice p12 xs.length xs.length)) rfl) ?_
    refine L.nil ?_
    refine W.seq ?_
    refine W.region ?_
    refine L.v (o_move (v := (.slice p12 xs.length xs.length)) rfl) ?_
    refine L.v (v := (.bool (lineOk xs))) (op_call [(.slice p12 xs.length xs.length)] Try.call27 rfl (implValid p12 xs.length xs (Fsl.reads fs15) (by omega))) ?_
    refine L.v (o_assign (v := (.bool (lineOk xs))) rfl) ?_
    refine L.nil ?_
    refine W.seq ?_
    refine W.seq ?_
    refine W.region ?_
    refine L.v (o_move (v := (.bool (lineOk xs))) rfl) ?_
    refine L.v (o_move (v := (.bool (lineOk xs))) rfl) ?_
    refine L.v (o_bneq (a := lineOk xs) (b := lineOk xs) (c := false) Try.underlying4 rfl rfl (by simp)) ?_
    refine L.nil ?_
    refine W.condF (b := false) rfl rfl ?_
    refine W.skip ?_
    refine W.seq ?_
    refine W.seq ?_
    refine W.region ?_
    refine L.v (o_move (v := (.slice p12 xs.length xs.length)) rfl) ?_
    refine L.v (o_move (v := (.slice p xs.length c)) rfl) ?_
    refine L.cons (op_call [(.slice p xs.length c)] Try.call26 rfl (toElemS p c xs hs18 (by omega))) ?_
    rintro _ s25 ⟨p23, rfl, fs26⟩
    have ap27 : Apart (xs.length) (xs.length) p23 p := by simpa using Fsl.apart fs26 hs18 (el_ne _)
    have ap28 : Apart (xs.length) (xs.length) p23 p4 := by simpa using Fsl.apart fs26 hs19 (el_ne _)
    have ap29 : Apart (xs.length) (xs.length) p23 p12 := by simpa using Fsl.apart fs26 (Fsl.reads fs15) (el_ne _)
    have hs30 := Sl.ext hs18 fs26.ext
    have hs31 := Sl.ext hs19 fs26.ext
    have mu32 := Mut.ext mu20 fs26.ext
    have hs33 := Sl.ext (Fsl.reads fs15) fs26.ext
    have mu34 := Mut.ext mu22 fs26.ext
    have ex35 := Ext.trans ex21 fs26.ext
    have mu36 := Fsl.mut fs26 (xs.length * 3) (by simp)
    refine L.v (v := (.bool true)) (op_call [(.slice p12 xs.length xs.length), (.slice p23 xs.length xs.length)] Try.call28 rfl (eqElemS p12 p23 xs.length xs.length xs hs33 (Fsl.reads fs26) (by omega))) ?_
    refine L.v (o_not (b := true) (c := false) rfl rfl) ?_
    refine L.nil ?_
    refine W.condF (b := false) rfl rfl ?_
    refine W.skip ?_
    refine W.seq ?_
    refine W.region ?_
    refine L.v (o_assign (v := (.bool true)) rfl) ?_
    refine L.nil ?_
    refine W.ret ?_
    exact RetK.one _ (.bool true) rfl rfl (Ext.refl _) rfl

end Go.Proofs.Ytpgmpjejfpmnoaa.En
