/- BackLine in the program and in the reference, and its law. -/
import Derived.Test.YtpgmpjejfpmnoaaBackA
import Derived.Test.YtpgmpjejfpmnoaaRows
namespace Go.Proofs.Ytpgmpjejfpmnoaa.En
open Go
set_option linter.unusedVariables false
theorem specBack {w0 : World} {σ : Sg} (p : Option Addr) (c : Nat) (xs : List (Int × Nat × Nat)) (hs : Sl σ 3 p (xs.map el)) (hn : xs.length ≤ 1048576) :
    Fn Try.prog w0 31 [(.slice p xs.length c)] σ (RetFS w0 σ 3 ((backF xs).map el) (backF xs).length (fun v => .tuple #[v, .bool (backB xs)])) := by
  refine Fn.of_W 37 Try.func31 rfl Try.ntmps31 rfl ?_
  refine W.seq ?_
  refine W.region ?_
  refine L.v (o_assign (v := (.slice none 0 0)) rfl) ?_
  refine L.v (o_assign (v := (.bool false)) rfl) ?_
  refine L.nil ?_
  refine W.seq ?_
  refine W.seq ?_
  refine W.region ?_
  refine L.v (o_move (v := (.slice p xs.length c)) rfl) ?_
  refine L.v (v := (.bool (lineOk xs))) (op_call [(.slice p xs.length c)] Try.call52 rfl (specLine p c xs hs (by omega))) ?_
  refine L.v (o_not (b := lineOk xs) rfl rfl) ?_
  refine L.nil ?_
  refine W.cond (b := !(lineOk xs)) rfl (fun q1 => ?_) (fun q1 => ?_)
  ·
    refine W.seq ?_
    refine W.region ?_
    refine L.v (o_assign (v := (.slice none 0 0)) rfl) ?_
    refine L.v (o_assign (v := (.bool false)) rfl) ?_
    refine L.nil ?_
    refine W.ret ?_
    have hno : backB xs = false := by rw [backB, (bn_t q1)]; rfl
    exact RetK.two σ (.slice none 0 0) (.bool false) rfl rfl rfl rfl rfl (Ext.refl _) ⟨none, 0, by rw [backF_no hno, hno]; rfl, by rw [backF_no hno]; exact Fsl.nil 3⟩
  ·
    refine W.skip ?_
    refine W.seq ?_
    refine W.region ?_
    refine L.cons (o_buildSlice0 (info := Try.t68) Try.underlying44 Try.type68) ?_
    rintro _ _ ⟨b2, hf3, hw4, rfl, rfl⟩
    have ho0 := Own.new (σ := σ) (e := 68) 3 hw4
    have hx0 : Ext σ (sg σ b2 (68, [])) := (Ext.refl _).sg hf3
    have hv0 := ownAt (n := 0) (c := 0) hf3
    refine L.v (o_assign (v := (.slice (some ⟨b2, 0, none⟩) 0 0)) rfl) ?_
    refine L.nil ?_
    refine W.seq ?_
    refine W.seq ?_
    refine W.region ?_
    refine L.v (o_move (v := (.slice p xs.length c)) rfl) ?_
    refine L.v (o_len (p := p) (n := xs.length) (c := c) Try.underlying44 rfl) ?_
    refine L.v (o_isub (a := (xs.length : Int)) (b := 1) (c := (xs.length : Int) - 1) rfl rfl (by rw [IntWalk.i64_in _ (by omega)]; try (push_cast; omega))) ?_
    refine L.v (o_assign (v := (.int .i64 ((xs.length : Int) - 1))) rfl) ?_
    refine L.nil ?_
    refine W.block ?_
    refine W.loop (fun nn tt ss => ∃ (k : Nat) (v : Value), nn = xs.length - k ∧ k ≤ xs.length ∧ (∀ i, i < k → ¬ (xs.getD (xs.length - 1 - i) (0, 0, 0)).1 = 4) ∧ Own w0 ss 68 3 v k (((bkTo xs (k)).map el).flatten) ∧ Ext σ ss ∧ (∀ b, v.ownBlock = some b → σ b = none) ∧ FrOk tt [(0, (.slice p xs.length c)), (4, v), (5, (.int .i64 ((xs.length : Int) - 1 - (k : Int))))]) _ ⟨0, (.slice (some ⟨b2, 0, none⟩) 0 0), rfl, by omega, (fun i hi => by omega), ho0, hx0, hv0, ⟨rfl, rfl, (by show Value.int .i64 _ = _; congr 1; omega), trivial⟩⟩ ?_
    rintro _ t1 s1 ⟨k, v1, rfl, hk, hk4, ho1, hx1, hv1, f1⟩
    replace f1 : (upd (upd (upd t1 0 (.slice p xs.length c)) 4 v1) 5 (.int .i64 ((xs.length : Int) - 1 - (k : Int)))) = t1 := frame_ok f1
    rw [← f1]
    clear f1
    have hs1 := Sl.ext hs hx1
    refine W.seq ?_
    refine W.seq ?_
    refine W.region ?_
    refine L.v (o_move (v := (.int .i64 ((xs.length : Int) - 1 - (k : Int)))) rfl) ?_
    refine L.v (o_igeq (a := (xs.length : Int) - 1 - (k : Int)) (b := 0) rfl rfl rfl) ?_
    refine L.nil ?_
    refine W.cond (b := decide ((0 : Int) ≤ ((xs.length : Int) - 1 - (k : Int)))) rfl (fun q5 => ?_) (fun q5 => ?_)
    ·
      have a6 : (0 : Int) ≤ ((xs.length : Int) - 1 - (k : Int)) := of_decide_eq_true q5
      refine W.skip ?_
      refine W.seq ?_
      refine W.block ?_
      refine W.seq ?_
      obtain ⟨b7, o8, rfl, _⟩ := hs1.elem (xs.length - 1 - k) (by omega) (0, 0, 0)
      refine W.region ?_
      refine L.v (o_move (v := (.slice (some ⟨b7, o8, none⟩) xs.length c)) rfl) ?_
      refine L.v (o_move (v := (.int .i64 ((xs.length : Int) - 1 - (k : Int)))) rfl) ?_
      refine L.v (o_indexAddr (b := b7) (off := o8) (n := xs.length) (c := c) (xs.length - 1 - k) Try.underlying44 Try.sizeOf68 rfl (by show Value.int .i64 _ = Value.int .i64 _; congr 1; omega) (by omega)) ?_
      refine L.v (o_loads (b := b7) (off := o8 + (xs.length - 1 - k) * 3) (vs := [(.int .i64 ((xs.getD (xs.length - 1 - k) (0, 0, 0)).1)), (.float .f32 ((xs.getD (xs.length - 1 - k) (0, 0, 0)).2.1)), (.float .f32 ((xs.getD (xs.length - 1 - k) (0, 0, 0)).2.2))]) Try.isAgg68 Try.sizeOf68 rfl rfl (Sl.at (Sl.ext hs1 (Ext.refl s1)) (xs.length - 1 - k) (by omega) (0, 0, 0))) ?_
      refine L.cons (o_alloc Try.zeroValue68 [(.int .i64 0), (.float .f32 0), (.float .f32 0)] rfl) ?_
      rintro _ _ ⟨b9, hf10, hw11, rfl, rfl⟩
      have fz15 := Ext.none (Ext.refl s1) hf10
      have hb14 : (sg s1 b9 (68, [(.int .i64 0), (.float .f32 0), (.float .f32 0)])) b9 = some (68, [(.int .i64 0), (.float .f32 0), (.float .f32 0)]) := sg_eq _ _ _
      have hx13 : Ext s1 (sg s1 b9 (68, [(.int .i64 0), (.float .f32 0), (.float .f32 0)])) := (Ext.refl _).sg hf10
      have ehx13 := Ext.trans (Ext.refl s1) hx13
      generalize hgs12 : sg s1 b9 (68, [(.int .i64 0), (.float .f32 0), (.float .f32 0)]) = s12 at *
      clear hgs12
      refine L.cons0 (o_stores (b := b9) (off := 0) (vs := [(.int .i64 ((xs.getD (xs.length - 1 - k) (0, 0, 0)).1)), (.float .f32 ((xs.getD (xs.length - 1 - k) (0, 0, 0)).2.1)), (.float .f32 ((xs.getD (xs.length - 1 - k) (0, 0, 0)).2.2))]) Try.sizeOf68 rfl rfl rfl (by simp [Value.oneCell']) hb14 (by show _ ≤ 3; decide) hw11) ?_
      rintro _ _ ⟨rfl, rfl⟩
      show L _ _ _ _ _ _ _ (sg s12 b9 (68, [(.int .i64 ((xs.getD (xs.length - 1 - k) (0, 0, 0)).1)), (.float .f32 ((xs.getD (xs.length - 1 - k) (0, 0, 0)).2.1)), (.float .f32 ((xs.getD (xs.length - 1 - k) (0, 0, 0)).2.2))]))
      have e18 := Ext.sg (x := (68, [(.int .i64 ((xs.getD (xs.length - 1 - k) (0, 0, 0)).1)), (.float .f32 ((xs.getD (xs.length - 1 - k) (0, 0, 0)).2.1)), (.float .f32 ((xs.getD (xs.length - 1 - k) (0, 0, 0)).2.2))])) ehx13 fz15
      generalize hgs17 : sg s12 b9 (68, [(.int .i64 ((xs.getD (xs.length - 1 - k) (0, 0, 0)).1)), (.float .f32 ((xs.getD (xs.length - 1 - k) (0, 0, 0)).2.1)), (.float .f32 ((xs.getD (xs.length - 1 - k) (0, 0, 0)).2.2))]) = s17 at *
      have hb16 := congrFun hgs17 b9
      rw [sg_eq] at hb16
      replace hb16 : s17 b9 = some (68, [(.int .i64 ((xs.getD (xs.length - 1 - k) (0, 0, 0)).1)), (.float .f32 ((xs.getD (xs.length - 1 - k) (0, 0, 0)).2.1)), (.float .f32 ((xs.getD (xs.length - 1 - k) (0, 0, 0)).2.2))]) := hb16.symm
      clear hgs17
      refine L.nil ?_
      refine W.seq ?_
      refine W.seq ?_
      refine W.region ?_
      refine L.v (o_fieldAddr (b := b9) (off := 0) (o := 0) (run_fieldAt (f := 0) (fld := { name := "Kind", type := 2, offset := 0, embedded := false, tag := "", pkgPath := "", byteOffset := 0 }) Try.underlying68 rfl Try.sizeOf2 (Nat.succ_ne_zero _)) rfl) ?_
      refine L.v (o_load (b := b9) (off := 0 + 0) (v := (.int .i64 ((xs.getD (xs.length - 1 - k) (0, 0, 0)).1))) Try.isAgg2 rfl (Rd.of hb16 rfl) rfl) ?_
      refine L.v (o_ieql (a := (xs.getD (xs.length - 1 - k) (0, 0, 0)).1) (b := 4) rfl rfl rfl) ?_
      refine L.nil ?_
      refine W.cond (b := decide (((xs.getD (xs.length - 1 - k) (0, 0, 0)).1 : Int) = 4)) rfl (fun q19 => ?_) (fun q19 => ?_)
      ·
        have a20 : ((xs.getD (xs.length - 1 - k) (0, 0, 0)).1 : Int) = 4 := of_decide_eq_true q19
        refine W.seq ?_
        refine W.region ?_
        refine L.v (o_assign (v := (.slice none 0 0)) rfl) ?_
        refine L.v (o_assign (v := (.bool false)) rfl) ?_
        refine L.nil ?_
        refine W.ret ?_
        have hno : backB xs = false := back_no (i := xs.length - 1 - k) (by omega) (of_decide_eq_true q19)
        exact RetK.two σ (.slice none 0 0) (.bool false) rfl rfl rfl rfl rfl (Ext.trans hx1 e18) ⟨none, 0, by rw [backF_no hno, hno]; rfl, by rw [backF_no hno]; exact Fsl.nil 3⟩
      ·
        have a21 : ¬ (((xs.getD (xs.length - 1 - k) (0, 0, 0)).1 : Int) = 4) := of_decide_eq_false q19
        refine W.skip ?_
        refine W.seq ?_
        refine W.seq ?_
        refine W.region ?_
        refine L.v (o_fieldAddr (b := b9) (off := 0) (o := 0) (run_fieldAt (f := 0) (fld := { name := "Kind", type := 2, offset := 0, embedded := false, tag := "", pkgPath := "", byteOffset := 0 }) Try.underlying68 rfl Try.sizeOf2 (Nat.succ_ne_zero _)) rfl) ?_
        refine L.v (o_load (b := b9) (off := 0 + 0) (v := (.int .i64 ((xs.getD (xs.length - 1 - k) (0, 0, 0)).1))) Try.isAgg2 rfl (Rd.of hb16 rfl) rfl) ?_
        refine L.v (o_ineq (a := (xs.getD (xs.length - 1 - k) (0, 0, 0)).1) (b := 2) rfl rfl rfl) ?_
        refine L.nil ?_
        refine W.cond (b := !decide (((xs.getD (xs.length - 1 - k) (0, 0, 0)).1 : Int) = 2)) rfl (fun q22 => ?_) (fun q22 => ?_)
        ·
          have a23 : ¬ (((xs.getD (xs.length - 1 - k) (0, 0, 0)).1 : Int) = 2) := of_decide_eq_false (bn_t q22)
          refine W.region ?_
          refine L.v (o_fieldAddr (b := b9) (off := 0) (o := 1) (run_fieldAt (f := 1) (fld := { name := "Number", type := 56, offset := 1, embedded := false, tag := "", pkgPath := "", byteOffset := 8 }) Try.underlying68 rfl Try.sizeOf56 (Nat.succ_ne_zero _)) rfl) ?_
          refine L.v (o_load (b := b9) (off := 0 + 1) (v := (.float .f32 ((xs.getD (xs.length - 1 - k) (0, 0, 0)).2.1))) Try.isAgg56 rfl (Rd.of hb16 rfl) rfl) ?_
          refine L.v (o_fneg (k := .f32) (a := (xs.getD (xs.length - 1 - k) (0, 0, 0)).2.1) rfl) ?_
          refine L.v (o_fieldAddr (b := b9) (off := 0) (o := 1) (run_fieldAt (f := 1) (fld := { name := "Number", type := 56, offset := 1, embedded := false, tag := "", pkgPath := "", byteOffset := 8 }) Try.underlying68 rfl Try.sizeOf56 (Nat.succ_ne_zero _)) rfl) ?_
          refine L.cons0 (o_store (b := b9) (off := 0 + 1) (v := (.float .f32 (Op.negFloat .f32 ((xs.getD (xs.length - 1 - k) (0, 0, 0)).2.1)))) Try.sizeOf56 rfl rfl rfl hb16 (by show _ < 3; decide) hw11) ?_
          rintro _ _ ⟨rfl, rfl⟩
          show L _ _ _ _ _ _ _ (sg s17 b9 (68, [(.int .i64 ((xs.getD (xs.length - 1 - k) (0, 0, 0)).1)), (.float .f32 (Op.negFloat .f32 ((xs.getD (xs.length - 1 - k) (0, 0, 0)).2.1))), (.float .f32 ((xs.getD (xs.length - 1 - k) (0, 0, 0)).2.2))]))
          have e26 := Ext.sg (x := (68, [(.int .i64 ((xs.getD (xs.length - 1 - k) (0, 0, 0)).1)), (.float .f32 (Op.negFloat .f32 ((xs.getD (xs.length - 1 - k) (0, 0, 0)).2.1))), (.float .f32 ((xs.getD (xs.length - 1 - k) (0, 0, 0)).2.2))])) e18 fz15
          generalize hgs25 : sg s17 b9 (68, [(.int .i64 ((xs.getD (xs.length - 1 - k) (0, 0, 0)).1)), (.float .f32 (Op.negFloat .f32 ((xs.getD (xs.length - 1 - k) (0, 0, 0)).2.1))), (.float .f32 ((xs.getD (xs.length - 1 - k) (0, 0, 0)).2.2))]) = s25 at *
          have hb24 := congrFun hgs25 b9
          rw [sg_eq] at hb24
          replace hb24 : s25 b9 = some (68, [(.int .i64 ((xs.getD (xs.length - 1 - k) (0, 0, 0)).1)), (.float .f32 (Op.negFloat .f32 ((xs.getD (xs.length - 1 - k) (0, 0, 0)).2.1))), (.float .f32 ((xs.getD (xs.length - 1 - k) (0, 0, 0)).2.2))]) := hb24.symm
          clear hgs25
          refine L.nil ?_
          refine W.region ?_
          refine L.v (o_move (v := v1) rfl) ?_
          refine L.v (o_loads (b := b9) (off := 0) (vs := [(.int .i64 ((xs.getD (xs.length - 1 - k) (0, 0, 0)).1)), (.float .f32 (Op.negFloat .f32 ((xs.getD (xs.length - 1 - k) (0, 0, 0)).2.1))), (.float .f32 ((xs.getD (xs.length - 1 - k) (0, 0, 0)).2.2))]) Try.isAgg68 Try.sizeOf68 rfl rfl (Rds.of hb24 (by intro j v hj; simpa using hj))) ?_
          have hoA := Own.ext ho1 e26
          have hxA := Ext.trans hx1 e26
          refine L.cons (o_buildSlice1 (info := Try.t68) (z := (.agg #[.int .i64 0, .float .f32 0, .float .f32 0])) (k := 3) [(.int .i64 ((xs.getD (xs.length - 1 - k) (0, 0, 0)).1)), (.float .f32 (Op.negFloat .f32 ((xs.getD (xs.length - 1 - k) (0, 0, 0)).2.1))), (.float .f32 ((xs.getD (xs.length - 1 - k) (0, 0, 0)).2.2))] Try.underlying44 Try.type68 rfl rfl rfl rfl (by decide) rfl) ?_
          rintro _ _ ⟨b27, hf28, hw29, rfl, rfl⟩
          have hx30 := Ext.trans hxA ((Ext.refl _).sg (x := (68, [(.int .i64 ((xs.getD (xs.length - 1 - k) (0, 0, 0)).1)), (.float .f32 (Op.negFloat .f32 ((xs.getD (xs.length - 1 - k) (0, 0, 0)).2.1))), (.float .f32 ((xs.getD (xs.length - 1 - k) (0, 0, 0)).2.2))])) hf28)
          have ho31 := Own.ext hoA ((Ext.refl _).sg (x := (68, [(.int .i64 ((xs.getD (xs.length - 1 - k) (0, 0, 0)).1)), (.float .f32 (Op.negFloat .f32 ((xs.getD (xs.length - 1 - k) (0, 0, 0)).2.1))), (.float .f32 ((xs.getD (xs.length - 1 - k) (0, 0, 0)).2.2))])) hf28)
          refine L.cons (o_append (info := Try.t68) (z := (.agg #[.int .i64 0, .float .f32 0, .float .f32 0])) (size := 3) (bytes := 16) (v := v1) (n := k) (m := 1) (c := 1) (b := b27) (off := 0) (xs := ((bkTo xs (k)).map el).flatten) (news := [(.int .i64 ((xs.getD (xs.length - 1 - k) (0, 0, 0)).1)), (.float .f32 (Op.negFloat .f32 ((xs.getD (xs.length - 1 - k) (0, 0, 0)).2.1))), (.float .f32 ((xs.getD (xs.length - 1 - k) (0, 0, 0)).2.2))]) Try.underlying44 Try.type68 rfl rfl rfl rfl rfl ho31 rfl (by decide) rfl (Rds.of (sg_eq _ _ _) (by intro j v hj; simpa using hj)) (by simp [Value.oneCell']) (by unfold maxLen; omega) (by omega)) ?_
          rintro v32 s33 ⟨ho34, gr35⟩
          have hx36 := Grew.ext gr35 hx30 hv1
          have hv37 := Grew.fresh gr35 hx30 hv1
          refine L.v (o_assign (v := v32) rfl) ?_
          refine L.nil ?_
          refine W.region ?_
          refine L.v (o_move (v := (.int .i64 ((xs.length : Int) - 1 - (k : Int)))) rfl) ?_
          refine L.v (o_isub (a := (xs.length : Int) - 1 - (k : Int)) (b := 1) (c := (xs.length : Int) - 1 - ((k + 1 : Nat) : Int)) rfl rfl (by rw [IntWalk.i64_in _ (by omega)]; try (push_cast; omega))) ?_
          refine L.v (o_assign (v := (.int .i64 ((xs.length : Int) - 1 - ((k + 1 : Nat) : Int)))) rfl) ?_
          refine L.nil ?_
          have hk5 : ∀ i, i < k + 1 → ¬ (xs.getD (xs.length - 1 - i) (0, 0, 0)).1 = 4 := fun i hi => by rcases Nat.lt_or_ge i k with h9 | h9; exact hk4 i h9; obtain rfl : i = k := (by omega); exact of_decide_eq_false q19
          exact ⟨_, (by omega), k + 1, v32, rfl, by omega, hk5, (by rw [bkTo_succ, List.map_append, List.flatten_append, bk_n (of_decide_eq_false (bn_t q22))]; exact ho34), hx36, hv37, ⟨rfl, rfl, rfl, trivial⟩⟩
        ·
          have a38 : ((xs.getD (xs.length - 1 - k) (0, 0, 0)).1 : Int) = 2 := of_decide_eq_true (bn_f q22)
          refine W.skip ?_
          refine W.region ?_
          refine L.v (o_move (v := v1) rfl) ?_
          refine L.v (o_loads (b := b9) (off := 0) (vs := [(.int .i64 ((xs.getD (xs.length - 1 - k) (0, 0, 0)).1)), (.float .f32 ((xs.getD (xs.length - 1 - k) (0, 0, 0)).2.1)), (.float .f32 ((xs.getD (xs.length - 1 - k) (0, 0, 0)).2.2))]) Try.isAgg68 Try.sizeOf68 rfl rfl (Rds.of hb16 (by intro j v hj; simpa using hj))) ?_
          have hoA := Own.ext ho1 e18
          have hxA := Ext.trans hx1 e18
          refine L.cons (o_buildSlice1 (info := Try.t68) (z := (.agg #[.int .i64 0, .float .f32 0, .float .f32 0])) (k := 3) [(.int .i64 ((xs.getD (xs.length - 1 - k) (0, 0, 0)).1)), (.float .f32 ((xs.getD (xs.length - 1 - k) (0, 0, 0)).2.1)), (.float .f32 ((xs.getD (xs.length - 1 - k) (0, 0, 0)).2.2))] Try.underlying44 Try.type68 rfl rfl rfl rfl (by decide) rfl) ?_
          rintro _ _ ⟨b39, hf40, hw41, rfl, rfl⟩
          have hx42 := Ext.trans hxA ((Ext.refl _).sg (x := (68, [(.int .i64 ((xs.getD (xs.length - 1 - k) (0, 0, 0)).1)), (.float .f32 ((xs.getD (xs.length - 1 - k) (0, 0, 0)).2.1)), (.float .f32 ((xs.getD (xs.length - 1 - k) (0, 0, 0)).2.2))])) hf40)
          have ho43 := Own.ext hoA ((Ext.refl _).sg (x := (68, [(.int .i64 ((xs.getD (xs.length - 1 - k) (0, 0, 0)).1)), (.float .f32 ((xs.getD (xs.length - 1 - k) (0, 0, 0)).2.1)), (.float .f32 ((xs.getD (xs.length - 1 - k) (0, 0, 0)).2.2))])) hf40)
          refine L.cons (o_append (info := Try.t68) (z := (.agg #[.int .i64 0, .float .f32 0, .float .f32 0])) (size := 3) (bytes := 16) (v := v1) (n := k) (m := 1) (c := 1) (b := b39) (off := 0) (xs := ((bkTo xs (k)).map el).flatten) (news := [(.int .i64 ((xs.getD (xs.length - 1 - k) (0, 0, 0)).1)), (.float .f32 ((xs.getD (xs.length - 1 - k) (0, 0, 0)).2.1)), (.float .f32 ((xs.getD (xs.length - 1 - k) (0, 0, 0)).2.2))]) Try.underlying44 Try.type68 rfl rfl rfl rfl rfl ho43 rfl (by decide) rfl (Rds.of (sg_eq _ _ _) (by intro j v hj; simpa using hj)) (by simp [Value.oneCell']) (by unfold maxLen; omega) (by omega)) ?_
          rintro v44 s45 ⟨ho46, gr47⟩
          have hx48 := Grew.ext gr47 hx42 hv1
          have hv49 := Grew.fresh gr47 hx42 hv1
          refine L.v (o_assign (v := v44) rfl) ?_
          refine L.nil ?_
          refine W.region ?_
          refine L.v (o_move (v := (.int .i64 ((xs.length : Int) - 1 - (k : Int)))) rfl) ?_
          refine L.v (o_isub (a := (xs.length : Int) - 1 - (k : Int)) (b := 1) (c := (xs.length : Int) - 1 - ((k + 1 : Nat) : Int)) rfl rfl (by rw [IntWalk.i64_in _ (by omega)]; try (push_cast; omega))) ?_
          refine L.v (o_assign (v := (.int .i64 ((xs.length : Int) - 1 - ((k + 1 : Nat) : Int)))) rfl) ?_
          refine L.nil ?_
          have hk5 : ∀ i, i < k + 1 → ¬ (xs.getD (xs.length - 1 - i) (0, 0, 0)).1 = 4 := fun i hi => by rcases Nat.lt_or_ge i k with h9 | h9; exact hk4 i h9; obtain rfl : i = k := (by omega); exact of_decide_eq_false q19
          exact ⟨_, (by omega), k + 1, v44, rfl, by omega, hk5, (by rw [bkTo_succ, List.map_append, List.flatten_append, bk_2 (of_decide_eq_true (bn_f q22))]; exact ho46), hx48, hv49, ⟨rfl, rfl, rfl, trivial⟩⟩
    ·
      have a50 : ¬ ((0 : Int) ≤ ((xs.length : Int) - 1 - (k : Int))) := of_decide_eq_false q5
      refine W.exit ?_
      refine W.seq ?_
      refine W.region ?_
      refine L.v (o_move (v := v1) rfl) ?_
      refine L.v (o_assign (v := v1) rfl) ?_
      refine L.v (o_assign (v := (.bool true)) rfl) ?_
      refine L.nil ?_
      refine W.ret ?_
      obtain rfl : k = xs.length := by omega
      have hyes : backB xs = true := back_yes (bn_f q1) (fun i hi => by have h9 := hk4 (xs.length - 1 - i) (by omega); rwa [show xs.length - 1 - (xs.length - 1 - i) = i by omega] at h9)
      obtain ⟨p', c', hpc, hfs⟩ := Fsl.of_own (rows := (bkTo xs xs.length).map el) (n := xs.length) ho1 (by rw [List.length_map, bkTo_len]) (el_all _) hx1 hv1
      subst hpc
      exact RetK.two _ (.slice p' xs.length c') (.bool true) rfl rfl rfl rfl rfl (Ext.refl _) ⟨p', c', by rw [backF_yes hyes, hyes, ← bkTo_all, bkTo_len], by rw [backF_yes hyes, ← bkTo_all]; exact hfs⟩

theorem implBackZ {w0 : World} {σ : Sg} (p : Option Addr) (c : Nat) (xs : List (Int × Nat × Nat)) (hs : Sl σ 3 p (xs.map el)) (hn : xs.length ≤ 1048576) (h0 : xs.length = 0) :
    Fn Try.prog w0 32 [(.slice p xs.length c)] σ (RetFS w0 σ 3 ((backF xs).map el) (backF xs).length (fun v => .tuple #[v, .bool (backB xs)])) := by
  refine Fn.of_W 38 Try.func32 rfl Try.ntmps32 rfl ?_
  refine W.seq ?_
  refine W.region ?_
  refine L.v (o_assign (v := (.slice none 0 0)) rfl) ?_
  refine L.v (o_assign (v := (.bool false)) rfl) ?_
  refine L.nil ?_
  refine W.seq ?_
  refine W.seq ?_
  refine W.region ?_
  refine L.v (o_move (v := (.slice p xs.length c)) rfl) ?_
  refine L.v (v := (.bool (lineOk xs))) (op_call [(.slice p xs.length c)] Try.call27 rfl (implValid p c xs hs (by omega))) ?_
  refine L.v (o_not (b := lineOk xs) rfl rfl) ?_
  refine L.nil ?_
  refine W.cond (b := !(lineOk xs)) rfl (fun q1 => ?_) (fun q1 => ?_)
  ·
    refine W.seq ?_
    refine W.region ?_
    refine L.v (o_assign (v := (.slice none 0 0)) rfl) ?_
    refine L.v (o_assign (v := (.bool false)) rfl) ?_
    refine L.nil ?_
    refine W.ret ?_
    have hno : backB xs = false := by rw [backB, (bn_t q1)]; rfl
    exact RetK.two σ (.slice none 0 0) (.bool false) rfl rfl rfl rfl rfl (Ext.refl _) ⟨none, 0, by rw [backF_no hno, hno]; rfl, by rw [backF_no hno]; exact Fsl.nil 3⟩
  ·
    refine W.skip ?_
    refine W.seq ?_
    refine W.region ?_
    refine L.v (o_move (v := (.slice p xs.length c)) rfl) ?_
    refine L.cons (op_call [(.slice p xs.length c)] Try.call62 rfl (cloneE p c xs hs (by omega))) ?_
    rintro _ s1 ⟨q, d, rfl, hq⟩
    refine L.v (o_assign (v := (.slice q xs.length d)) rfl) ?_
    refine L.nil ?_
    refine W.seq ?_
    refine W.region ?_
    refine L.v (o_move (v := (.slice q xs.length d)) rfl) ?_
    refine L.cons (op_call [(.slice q xs.length d)] Try.call63 rfl ((by have h := revZ (w0 := w0) (σ := s1) q d; rwa [← h0] at h))) ?_
    rintro _ s9 h9
    rw [h9]
    refine L.nil ?_
    refine W.seq ?_
    refine W.seq ?_
    refine W.region ?_
    refine L.v (o_move (v := (.slice q xs.length d)) rfl) ?_
    refine L.v (o_len (p := q) (n := xs.length) (c := d) Try.underlying44 rfl) ?_
    refine L.v (o_move (v := (.int .i64 0)) rfl) ?_
    refine L.nil ?_
    refine W.block ?_
    refine W.loop (fun nn tt ss => ∃ (i : Nat), nn = xs.length - i ∧ (i ≤ xs.length) ∧ FrOk tt [(4, (.slice q xs.length d)), (14, (.slice q xs.length d)), (15, (.int .i64 (xs.length : Int))), (16, (.int .i64 (i : Int)))] ∧ s1 = ss) _ ⟨0, rfl, (by omega), ⟨rfl, rfl, rfl, rfl, trivial⟩, rfl⟩ ?_
    rintro _ t2 _ ⟨i, rfl, hi, f3, rfl⟩
    rw [← frame_ok f3]
    show W _ _ _ _ _ (upd (upd (upd (upd t2 4 (.slice q xs.length d)) 14 (.slice q xs.length d)) 15 (.int .i64 (xs.length : Int))) 16 (.int .i64 (i : Int))) _
    refine W.seq ?_
    refine W.region ?_
    refine L.v (o_ilss (a := (i : Int)) (b := (xs.length : Int)) rfl rfl rfl) ?_
    refine L.nil ?_
    refine W.seq ?_
    refine W.cond (b := decide (((i : Int) : Int) < (xs.length : Int))) rfl (fun q4 => ?_) (fun q4 => ?_)
    ·
      have a5 : ((i : Int) : Int) < (xs.length : Int) := of_decide_eq_true q4
      exact absurd (of_decide_eq_true q4) (by omega)
    ·
      have a6 : ¬ (((i : Int) : Int) < (xs.length : Int)) := of_decide_eq_false q4
      refine W.exit ?_
      refine W.seq ?_
      refine W.region ?_
      refine L.v (o_move (v := (.slice q xs.length d)) rfl) ?_
      refine L.v (o_assign (v := (.slice q xs.length d)) rfl) ?_
      refine L.v (o_assign (v := (.bool true)) rfl) ?_
      refine L.nil ?_
      refine W.ret ?_
      have hx0 : xs = [] := List.eq_nil_of_length_eq_zero h0
      rw [hx0] at hq
      exact RetK.two _ (.slice q xs.length d) (.bool true) rfl rfl rfl rfl rfl (Ext.refl _) ⟨q, d, by rw [hx0]; rfl, by rw [hx0]; exact hq⟩

theorem implBackN {w0 : World} {σ : Sg} (p : Option Addr) (c : Nat) (xs : List (Int × Nat × Nat)) (hs : Sl σ 3 p (xs.map el)) (hn : xs.length ≤ 1048576) (h0 : 0 < xs.length) :
    Fn Try.prog w0 32 [(.slice p xs.length c)] σ (RetFS w0 σ 3 ((backF xs).map el) (backF xs).length (fun v => .tuple #[v, .bool (backB xs)])) := by
  refine Fn.of_W 38 Try.func32 rfl Try.ntmps32 rfl ?_
  refine W.seq ?_
  refine W.region ?_
  refine L.v (o_assign (v := (.slice none 0 0)) rfl) ?_
  refine L.v (o_assign (v := (.bool false)) rfl) ?_
  refine L.nil ?_
  refine W.seq ?_
  refine W.seq ?_
  refine W.region ?_
  refine L.v (o_move (v := (.slice p xs.length c)) rfl) ?_
  refine L.v (v := (.bool (lineOk xs))) (op_call [(.slice p xs.length c)] Try.call27 rfl (implValid p c xs hs (by omega))) ?_
  refine L.v (o_not (b := lineOk xs) rfl rfl) ?_
  refine L.nil ?_
  refine W.cond (b := !(lineOk xs)) rfl (fun q1 => ?_) (fun q1 => ?_)
  ·
    refine W.seq ?_
    refine W.region ?_
    refine L.v (o_assign (v := (.slice none 0 0)) rfl) ?_
    refine L.v (o_assign (v := (.bool false)) rfl) ?_
    refine L.nil ?_
    refine W.ret ?_
    have hno : backB xs = false := by rw [backB, (bn_t q1)]; rfl
    exact RetK.two σ (.slice none 0 0) (.bool false) rfl rfl rfl rfl rfl (Ext.refl _) ⟨none, 0, by rw [backF_no hno, hno]; rfl, by rw [backF_no hno]; exact Fsl.nil 3⟩
  ·
    refine W.skip ?_
    refine W.seq ?_
    refine W.region ?_
    refine L.v (o_move (v := (.slice p xs.length c)) rfl) ?_
    refine L.cons (op_call [(.slice p xs.length c)] Try.call62 rfl (cloneE p c xs hs (by omega))) ?_
    rintro _ s1 ⟨q, d, rfl, hq⟩
    refine L.v (o_assign (v := (.slice q xs.length d)) rfl) ?_
    refine L.nil ?_
    refine W.seq ?_
    obtain ⟨b, e, cs0, rfl, hbf, hw0, hb0, hf0⟩ := Fsl.fill hq h0
    refine W.region ?_
    refine L.v (o_move (v := (.slice (some ⟨b, 0, none⟩) xs.length d)) rfl) ?_
    refine L.cons (op_call [(.slice (some ⟨b, 0, none⟩) xs.length d)] Try.call63 rfl (revN b e d cs0 xs hb0 hw0 hf0 (by omega))) ?_
    rintro _ _ ⟨cs1, rfl, hf1⟩
    refine L.nil ?_
    refine W.seq ?_
    refine W.seq ?_
    refine W.region ?_
    refine L.v (o_move (v := (.slice (some ⟨b, 0, none⟩) xs.length d)) rfl) ?_
    refine L.v (o_len (p := (some ⟨b, 0, none⟩)) (n := xs.length) (c := d) Try.underlying44 rfl) ?_
    refine L.v (o_move (v := (.int .i64 0)) rfl) ?_
    refine L.nil ?_
    refine W.block ?_
    have hxs : Ext σ (sg s1 b (e, cs1)) := Ext.sg hq.ext hbf
    refine W.loop (fun nn tt ss => ∃ (i : Nat) (cs : List Value), nn = xs.length - i ∧ i ≤ xs.length ∧ (∀ j, j < i → ¬ (xs.reverse.getD j (0, 0, 0)).1 = 4) ∧ ss b = some (e, cs) ∧ fillE (backI xs.reverse i) cs ∧ Ext σ ss ∧ FrOk tt [(4, (.slice (some ⟨b, 0, none⟩) xs.length d)), (14, (.slice (some ⟨b, 0, none⟩) xs.length d)), (15, (.int .i64 (xs.length : Int))), (16, (.int .i64 (i : Int)))]) _ ⟨0, cs1, rfl, by omega, (fun j hj => by omega), sg_eq _ _ _, (by rw [backI_zero]; exact hf1), hxs, ⟨rfl, rfl, rfl, rfl, trivial⟩⟩ ?_
    rintro _ t1 s2 ⟨i, cs, rfl, hi, hk4, hbb, hfc, hx2, f1⟩
    replace f1 : (upd (upd (upd (upd t1 4 (.slice (some ⟨b, 0, none⟩) xs.length d)) 14 (.slice (some ⟨b, 0, none⟩) xs.length d)) 15 (.int .i64 (xs.length : Int))) 16 (.int .i64 (i : Int))) = t1 := frame_ok f1
    rw [← f1]
    clear f1
    have hrl : xs.reverse.length = xs.length := List.length_reverse
    refine W.seq ?_
    refine W.region ?_
    refine L.v (o_ilss (a := (i : Int)) (b := (xs.length : Int)) rfl rfl rfl) ?_
    refine L.nil ?_
    refine W.seq ?_
    refine W.cond (b := decide (((i : Int) : Int) < (xs.length : Int))) rfl (fun q2 => ?_) (fun q2 => ?_)
    ·
      have a3 : ((i : Int) : Int) < (xs.length : Int) := of_decide_eq_true q2
      refine W.skip ?_
      refine W.seq ?_
      refine W.block ?_
      refine W.seq ?_
      refine W.region ?_
      refine L.v (o_move (v := (.int .i64 (i : Int))) rfl) ?_
      refine L.v (o_indexAddr (b := b) (off := 0) (n := xs.length) (c := d) i Try.underlying44 Try.sizeOf68 rfl rfl (by omega)) ?_
      have hrd : Rds s2 b (0 + i * 3) (el (xs.reverse.getD i (0, 0, 0))) := by have h9 := fillE.rd hfc hbb (show i < (backI xs.reverse i).length by rw [backI_len]; omega); rwa [backI_at (by omega)] at h9
      refine L.v (o_loads (b := b) (off := 0 + i * 3) (vs := [(.int .i64 ((xs.reverse.getD i (0, 0, 0)).1)), (.float .f32 ((xs.reverse.getD i (0, 0, 0)).2.1)), (.float .f32 ((xs.reverse.getD i (0, 0, 0)).2.2))]) Try.isAgg68 Try.sizeOf68 rfl rfl hrd) ?_
      refine L.cons (o_alloc Try.zeroValue68 [(.int .i64 0), (.float .f32 0), (.float .f32 0)] rfl) ?_
      rintro _ _ ⟨b4, hf5, hw6, rfl, rfl⟩
      have fz10 := Ext.none (Ext.refl s2) hf5
      have ne11 := ne_of_free hbb hf5
      have hb9 : (sg s2 b4 (68, [(.int .i64 0), (.float .f32 0), (.float .f32 0)])) b4 = some (68, [(.int .i64 0), (.float .f32 0), (.float .f32 0)]) := sg_eq _ _ _
      have hx8 : Ext s2 (sg s2 b4 (68, [(.int .i64 0), (.float .f32 0), (.float .f32 0)])) := (Ext.refl _).sg hf5
      have hb12 := hx8 _ _ hbb
      have ehx8 := Ext.trans (Ext.refl s2) hx8
      generalize hgs7 : sg s2 b4 (68, [(.int .i64 0), (.float .f32 0), (.float .f32 0)]) = s7 at *
      clear hgs7
      refine L.v (o_assign (v := (.int .i64 (i : Int))) rfl) ?_
      refine L.cons0 (o_stores (b := b4) (off := 0) (vs := [(.int .i64 ((xs.reverse.getD i (0, 0, 0)).1)), (.float .f32 ((xs.reverse.getD i (0, 0, 0)).2.1)), (.float .f32 ((xs.reverse.getD i (0, 0, 0)).2.2))]) Try.sizeOf68 rfl rfl rfl (by simp [Value.oneCell']) hb9 (by show _ ≤ 3; decide) hw6) ?_
      rintro _ _ ⟨rfl, rfl⟩
      show L _ _ _ _ _ _ _ (sg s7 b4 (68, [(.int .i64 ((xs.reverse.getD i (0, 0, 0)).1)), (.float .f32 ((xs.reverse.getD i (0, 0, 0)).2.1)), (.float .f32 ((xs.reverse.getD i (0, 0, 0)).2.2))]))
      have e15 := Ext.sg (x := (68, [(.int .i64 ((xs.reverse.getD i (0, 0, 0)).1)), (.float .f32 ((xs.reverse.getD i (0, 0, 0)).2.1)), (.float .f32 ((xs.reverse.getD i (0, 0, 0)).2.2))])) ehx8 fz10
      generalize hgs14 : sg s7 b4 (68, [(.int .i64 ((xs.reverse.getD i (0, 0, 0)).1)), (.float .f32 ((xs.reverse.getD i (0, 0, 0)).2.1)), (.float .f32 ((xs.reverse.getD i (0, 0, 0)).2.2))]) = s14 at *
      have hb13 := congrFun hgs14 b4
      rw [sg_eq] at hb13
      replace hb13 : s14 b4 = some (68, [(.int .i64 ((xs.reverse.getD i (0, 0, 0)).1)), (.float .f32 ((xs.reverse.getD i (0, 0, 0)).2.1)), (.float .f32 ((xs.reverse.getD i (0, 0, 0)).2.2))]) := hb13.symm
      have hb16 := congrFun hgs14 b
      rw [sg_other hb12 ne11] at hb16
      replace hb16 := hb16.symm
      clear hgs14
      refine L.nil ?_
      refine W.seq ?_
      refine W.region ?_
      refine L.v (o_fieldAddr (b := b4) (off := 0) (o := 0) (run_fieldAt (f := 0) (fld := { name := "Kind", type := 2, offset := 0, embedded := false, tag := "", pkgPath := "", byteOffset := 0 }) Try.underlying68 rfl Try.sizeOf2 (Nat.succ_ne_zero _)) rfl) ?_
      refine L.v (o_load (b := b4) (off := 0 + 0) (v := (.int .i64 ((xs.reverse.getD i (0, 0, 0)).1))) Try.isAgg2 rfl (Rd.of hb13 rfl) rfl) ?_
      refine L.nil ?_
      refine W.block ?_
      refine W.seq ?_
      refine W.region ?_
      refine L.v (o_ieql (a := (xs.reverse.getD i (0, 0, 0)).1) (b := 4) rfl rfl rfl) ?_
      refine L.v (o_assign (v := (.bool (decide (((xs.reverse.getD i (0, 0, 0)).1 : Int) = 4)))) rfl) ?_
      refine L.nil ?_
      refine W.cond (b := decide (((xs.reverse.getD i (0, 0, 0)).1 : Int) = 4)) rfl (fun q17 => ?_) (fun q17 => ?_)
      ·
        have a18 : ((xs.reverse.getD i (0, 0, 0)).1 : Int) = 4 := of_decide_eq_true q17
        refine W.seq ?_
        refine W.region ?_
        refine L.v (o_assign (v := (.slice none 0 0)) rfl) ?_
        refine L.v (o_assign (v := (.bool false)) rfl) ?_
        refine L.nil ?_
        refine W.ret ?_
        have hno : backB xs = false := back_no (i := xs.length - 1 - i) (by omega) (by rw [← getD_rev (by omega)]; exact of_decide_eq_true q17)
        exact RetK.two σ (.slice none 0 0) (.bool false) rfl rfl rfl rfl rfl (Ext.trans hx2 e15) ⟨none, 0, by rw [backF_no hno, hno]; rfl, by rw [backF_no hno]; exact Fsl.nil 3⟩
      ·
        have a19 : ¬ (((xs.reverse.getD i (0, 0, 0)).1 : Int) = 4) := of_decide_eq_false q17
        refine W.seq ?_
        refine W.seq ?_
        refine W.region ?_
        refine L.v (o_ieql (a := (xs.reverse.getD i (0, 0, 0)).1) (b := 0) rfl rfl rfl) ?_
        refine L.v (o_assign (v := (.bool (decide (((xs.reverse.getD i (0, 0, 0)).1 : Int) = 0)))) rfl) ?_
        refine L.nil ?_
        refine W.cond (b := decide (((xs.reverse.getD i (0, 0, 0)).1 : Int) = 0)) rfl (fun q20 => ?_) (fun q20 => ?_)
        ·
          have a21 : ((xs.reverse.getD i (0, 0, 0)).1 : Int) = 0 := of_decide_eq_true q20
          refine W.skip ?_
          refine W.condT (b := decide (((xs.reverse.getD i (0, 0, 0)).1 : Int) = 0)) rfl q20 ?_
          refine W.region ?_
          refine L.v (o_move (v := (.slice (some ⟨b, 0, none⟩) xs.length d)) rfl) ?_
          refine L.v (o_move (v := (.int .i64 (i : Int))) rfl) ?_
          refine L.v (o_fieldAddr (b := b4) (off := 0) (o := 1) (run_fieldAt (f := 1) (fld := { name := "Number", type := 56, offset := 1, embedded := false, tag := "", pkgPath := "", byteOffset := 8 }) Try.underlying68 rfl Try.sizeOf56 (Nat.succ_ne_zero _)) rfl) ?_
          refine L.v (o_load (b := b4) (off := 0 + 1) (v := (.float .f32 ((xs.reverse.getD i (0, 0, 0)).2.1))) Try.isAgg56 rfl (Rd.of hb13 rfl) rfl) ?_
          refine L.v (o_fneg (k := .f32) (a := (xs.reverse.getD i (0, 0, 0)).2.1) rfl) ?_
          refine L.v (o_indexAddr (b := b) (off := 0) (n := xs.length) (c := d) i Try.underlying44 Try.sizeOf68 rfl rfl (by omega)) ?_
          refine L.v (o_fieldAddr (b := b) (off := 0 + i * 3) (o := 1) (run_fieldAt (f := 1) (fld := { name := "Number", type := 56, offset := 1, embedded := false, tag := "", pkgPath := "", byteOffset := 8 }) Try.underlying68 rfl Try.sizeOf56 (Nat.succ_ne_zero _)) rfl) ?_
          refine L.cons0 (o_store (b := b) (off := 0 + i * 3 + 1) (v := (.float .f32 (Op.negFloat .f32 ((xs.reverse.getD i (0, 0, 0)).2.1)))) Try.sizeOf56 rfl rfl rfl hb16 (by have := hfc.len; rw [backI_len] at this; omega) hw0) ?_
          rintro _ _ ⟨rfl, rfl⟩
          have hmid := fillE.mid (y := Op.negFloat .f32 (xs.reverse.getD i (0, 0, 0)).2.1) hfc (show i < (backI xs.reverse i).length by rw [backI_len]; omega)
          rw [backI_at (by omega)] at hmid
          rw [hmid]
          have hxn := Ext.sg (x := (e, wr cs (i * 3) (el ((xs.reverse.getD i (0, 0, 0)).1, Op.negFloat .f32 (xs.reverse.getD i (0, 0, 0)).2.1, (xs.reverse.getD i (0, 0, 0)).2.2)))) (Ext.trans hx2 e15) hbf
          refine L.nil ?_
          refine W.region ?_
          refine L.v (o_iadd (a := (i : Int)) (b := 1) (c := ((i + 1 : Nat) : Int)) rfl rfl (by rw [IntWalk.i64_in _ (by omega)]; try omega)) ?_
          refine L.v (o_move (v := (.int .i64 (((i + 1 : Nat) : Int)))) rfl) ?_
          refine L.nil ?_
          have hk5 : ∀ j, j < i + 1 → ¬ (xs.reverse.getD j (0, 0, 0)).1 = 4 := fun j hj => by rcases Nat.lt_or_ge j i with h9 | h9; exact hk4 j h9; obtain rfl : j = i := (by omega); exact of_decide_eq_false q17
          have hfd : fillE (backI xs.reverse (i + 1)) (wr cs (i * 3) (el ((xs.reverse.getD i (0, 0, 0)).1, Op.negFloat .f32 (xs.reverse.getD i (0, 0, 0)).2.1, (xs.reverse.getD i (0, 0, 0)).2.2))) := by have h9 := fillE.set (x := bk (xs.reverse.getD i (0, 0, 0))) hfc (show i < (backI xs.reverse i).length by rw [backI_len]; omega); rw [backI_step (by omega), bk_n (by omega)] at h9; exact h9
          exact ⟨_, (by omega), i + 1, _, rfl, by omega, hk5, (sg_eq _ _ _), hfd, hxn, ⟨rfl, rfl, rfl, rfl, trivial⟩⟩
        ·
          have a22 : ¬ (((xs.reverse.getD i (0, 0, 0)).1 : Int) = 0) := of_decide_eq_false q20
          refine W.seq ?_
          refine W.region ?_
          refine L.v (o_ieql (a := (xs.reverse.getD i (0, 0, 0)).1) (b := 1) rfl rfl rfl) ?_
          refine L.v (o_assign (v := (.bool (decide (((xs.reverse.getD i (0, 0, 0)).1 : Int) = 1)))) rfl) ?_
          refine L.nil ?_
          refine W.cond (b := decide (((xs.reverse.getD i (0, 0, 0)).1 : Int) = 1)) rfl (fun q23 => ?_) (fun q23 => ?_)
          ·
            have a24 : ((xs.reverse.getD i (0, 0, 0)).1 : Int) = 1 := of_decide_eq_true q23
            refine W.skip ?_
            refine W.condT (b := decide (((xs.reverse.getD i (0, 0, 0)).1 : Int) = 1)) rfl q23 ?_
            refine W.region ?_
            refine L.v (o_move (v := (.slice (some ⟨b, 0, none⟩) xs.length d)) rfl) ?_
            refine L.v (o_move (v := (.int .i64 (i : Int))) rfl) ?_
            refine L.v (o_fieldAddr (b := b4) (off := 0) (o := 1) (run_fieldAt (f := 1) (fld := { name := "Number", type := 56, offset := 1, embedded := false, tag := "", pkgPath := "", byteOffset := 8 }) Try.underlying68 rfl Try.sizeOf56 (Nat.succ_ne_zero _)) rfl) ?_
            refine L.v (o_load (b := b4) (off := 0 + 1) (v := (.float .f32 ((xs.reverse.getD i (0, 0, 0)).2.1))) Try.isAgg56 rfl (Rd.of hb13 rfl) rfl) ?_
            refine L.v (o_fneg (k := .f32) (a := (xs.reverse.getD i (0, 0, 0)).2.1) rfl) ?_
            refine L.v (o_indexAddr (b := b) (off := 0) (n := xs.length) (c := d) i Try.underlying44 Try.sizeOf68 rfl rfl (by omega)) ?_
            refine L.v (o_fieldAddr (b := b) (off := 0 + i * 3) (o := 1) (run_fieldAt (f := 1) (fld := { name := "Number", type := 56, offset := 1, embedded := false, tag := "", pkgPath := "", byteOffset := 8 }) Try.underlying68 rfl Try.sizeOf56 (Nat.succ_ne_zero _)) rfl) ?_
            refine L.cons0 (o_store (b := b) (off := 0 + i * 3 + 1) (v := (.float .f32 (Op.negFloat .f32 ((xs.reverse.getD i (0, 0, 0)).2.1)))) Try.sizeOf56 rfl rfl rfl hb16 (by have := hfc.len; rw [backI_len] at this; omega) hw0) ?_
            rintro _ _ ⟨rfl, rfl⟩
            have hmid := fillE.mid (y := Op.negFloat .f32 (xs.reverse.getD i (0, 0, 0)).2.1) hfc (show i < (backI xs.reverse i).length by rw [backI_len]; omega)
            rw [backI_at (by omega)] at hmid
            rw [hmid]
            have hxn := Ext.sg (x := (e, wr cs (i * 3) (el ((xs.reverse.getD i (0, 0, 0)).1, Op.negFloat .f32 (xs.reverse.getD i (0, 0, 0)).2.1, (xs.reverse.getD i (0, 0, 0)).2.2)))) (Ext.trans hx2 e15) hbf
            refine L.nil ?_
            refine W.region ?_
            refine L.v (o_iadd (a := (i : Int)) (b := 1) (c := ((i + 1 : Nat) : Int)) rfl rfl (by rw [IntWalk.i64_in _ (by omega)]; try omega)) ?_
            refine L.v (o_move (v := (.int .i64 (((i + 1 : Nat) : Int)))) rfl) ?_
            refine L.nil ?_
            have hk5 : ∀ j, j < i + 1 → ¬ (xs.reverse.getD j (0, 0, 0)).1 = 4 := fun j hj => by rcases Nat.lt_or_ge j i with h9 | h9; exact hk4 j h9; obtain rfl : j = i := (by omega); exact of_decide_eq_false q17
            have hfd : fillE (backI xs.reverse (i + 1)) (wr cs (i * 3) (el ((xs.reverse.getD i (0, 0, 0)).1, Op.negFloat .f32 (xs.reverse.getD i (0, 0, 0)).2.1, (xs.reverse.getD i (0, 0, 0)).2.2))) := by have h9 := fillE.set (x := bk (xs.reverse.getD i (0, 0, 0))) hfc (show i < (backI xs.reverse i).length by rw [backI_len]; omega); rw [backI_step (by omega), bk_n (by omega)] at h9; exact h9
            exact ⟨_, (by omega), i + 1, _, rfl, by omega, hk5, (sg_eq _ _ _), hfd, hxn, ⟨rfl, rfl, rfl, rfl, trivial⟩⟩
          ·
            have a25 : ¬ (((xs.reverse.getD i (0, 0, 0)).1 : Int) = 1) := of_decide_eq_false q23
            refine W.region ?_
            refine L.v (o_ieql (a := (xs.reverse.getD i (0, 0, 0)).1) (b := 3) rfl rfl rfl) ?_
            refine L.v (o_assign (v := (.bool (decide (((xs.reverse.getD i (0, 0, 0)).1 : Int) = 3)))) rfl) ?_
            refine L.nil ?_
            refine W.cond (b := decide (((xs.reverse.getD i (0, 0, 0)).1 : Int) = 3)) rfl (fun q26 => ?_) (fun q26 => ?_)
            ·
              have a27 : ((xs.reverse.getD i (0, 0, 0)).1 : Int) = 3 := of_decide_eq_true q26
              refine W.region ?_
              refine L.v (o_move (v := (.slice (some ⟨b, 0, none⟩) xs.length d)) rfl) ?_
              refine L.v (o_move (v := (.int .i64 (i : Int))) rfl) ?_
              refine L.v (o_fieldAddr (b := b4) (off := 0) (o := 1) (run_fieldAt (f := 1) (fld := { name := "Number", type := 56, offset := 1, embedded := false, tag := "", pkgPath := "", byteOffset := 8 }) Try.underlying68 rfl Try.sizeOf56 (Nat.succ_ne_zero _)) rfl) ?_
              refine L.v (o_load (b := b4) (off := 0 + 1) (v := (.float .f32 ((xs.reverse.getD i (0, 0, 0)).2.1))) Try.isAgg56 rfl (Rd.of hb13 rfl) rfl) ?_
              refine L.v (o_fneg (k := .f32) (a := (xs.reverse.getD i (0, 0, 0)).2.1) rfl) ?_
              refine L.v (o_indexAddr (b := b) (off := 0) (n := xs.length) (c := d) i Try.underlying44 Try.sizeOf68 rfl rfl (by omega)) ?_
              refine L.v (o_fieldAddr (b := b) (off := 0 + i * 3) (o := 1) (run_fieldAt (f := 1) (fld := { name := "Number", type := 56, offset := 1, embedded := false, tag := "", pkgPath := "", byteOffset := 8 }) Try.underlying68 rfl Try.sizeOf56 (Nat.succ_ne_zero _)) rfl) ?_
              refine L.cons0 (o_store (b := b) (off := 0 + i * 3 + 1) (v := (.float .f32 (Op.negFloat .f32 ((xs.reverse.getD i (0, 0, 0)).2.1)))) Try.sizeOf56 rfl rfl rfl hb16 (by have := hfc.len; rw [backI_len] at this; omega) hw0) ?_
              rintro _ _ ⟨rfl, rfl⟩
              have hmid := fillE.mid (y := Op.negFloat .f32 (xs.reverse.getD i (0, 0, 0)).2.1) hfc (show i < (backI xs.reverse i).length by rw [backI_len]; omega)
              rw [backI_at (by omega)] at hmid
              rw [hmid]
              have hxn := Ext.sg (x := (e, wr cs (i * 3) (el ((xs.reverse.getD i (0, 0, 0)).1, Op.negFloat .f32 (xs.reverse.getD i (0, 0, 0)).2.1, (xs.reverse.getD i (0, 0, 0)).2.2)))) (Ext.trans hx2 e15) hbf
              refine L.nil ?_
              refine W.region ?_
              refine L.v (o_iadd (a := (i : Int)) (b := 1) (c := ((i + 1 : Nat) : Int)) rfl rfl (by rw [IntWalk.i64_in _ (by omega)]; try omega)) ?_
              refine L.v (o_move (v := (.int .i64 (((i + 1 : Nat) : Int)))) rfl) ?_
              refine L.nil ?_
              have hk5 : ∀ j, j < i + 1 → ¬ (xs.reverse.getD j (0, 0, 0)).1 = 4 := fun j hj => by rcases Nat.lt_or_ge j i with h9 | h9; exact hk4 j h9; obtain rfl : j = i := (by omega); exact of_decide_eq_false q17
              have hfd : fillE (backI xs.reverse (i + 1)) (wr cs (i * 3) (el ((xs.reverse.getD i (0, 0, 0)).1, Op.negFloat .f32 (xs.reverse.getD i (0, 0, 0)).2.1, (xs.reverse.getD i (0, 0, 0)).2.2))) := by have h9 := fillE.set (x := bk (xs.reverse.getD i (0, 0, 0))) hfc (show i < (backI xs.reverse i).length by rw [backI_len]; omega); rw [backI_step (by omega), bk_n (by omega)] at h9; exact h9
              exact ⟨_, (by omega), i + 1, _, rfl, by omega, hk5, (sg_eq _ _ _), hfd, hxn, ⟨rfl, rfl, rfl, rfl, trivial⟩⟩
            ·
              have a28 : ¬ (((xs.reverse.getD i (0, 0, 0)).1 : Int) = 3) := of_decide_eq_false q26
              refine W.skip ?_
              refine W.region ?_
              refine L.v (o_iadd (a := (i : Int)) (b := 1) (c := ((i + 1 : Nat) : Int)) rfl rfl (by rw [IntWalk.i64_in _ (by omega)]; try omega)) ?_
              refine L.v (o_move (v := (.int .i64 (((i + 1 : Nat) : Int)))) rfl) ?_
              refine L.nil ?_
              have hk5 : ∀ j, j < i + 1 → ¬ (xs.reverse.getD j (0, 0, 0)).1 = 4 := fun j hj => by rcases Nat.lt_or_ge j i with h9 | h9; exact hk4 j h9; obtain rfl : j = i := (by omega); exact of_decide_eq_false q17
              have hkd := ok_kind (bn_f q1) (show xs.length - 1 - i < xs.length by omega)
              rw [← getD_rev (by omega)] at hkd
              exact ⟨_, (by omega), i + 1, cs, rfl, by omega, hk5, hb16, (by rw [backI_same (by omega) (by omega)]; exact hfc), Ext.trans hx2 e15, ⟨rfl, rfl, rfl, rfl, trivial⟩⟩
    ·
      have a29 : ¬ (((i : Int) : Int) < (xs.length : Int)) := of_decide_eq_false q2
      refine W.exit ?_
      refine W.seq ?_
      refine W.region ?_
      refine L.v (o_move (v := (.slice (some ⟨b, 0, none⟩) xs.length d)) rfl) ?_
      refine L.v (o_assign (v := (.slice (some ⟨b, 0, none⟩) xs.length d)) rfl) ?_
      refine L.v (o_assign (v := (.bool true)) rfl) ?_
      refine L.nil ?_
      refine W.ret ?_
      obtain rfl : i = xs.length := by omega
      have hyes : backB xs = true := back_yes_rev (bn_f q1) hk4
      have hfin : FillR ((xs.reverse.map bk).map el) 3 cs ((xs.reverse.map bk).map el).length := by have h9 := hfc; rw [show backI xs.reverse xs.length = xs.reverse.map bk by rw [← hrl]; exact backI_all _] at h9; exact h9
      exact RetK.two s2 (.slice (some ⟨b, 0, none⟩) xs.length d) (.bool true) rfl rfl rfl rfl rfl (Ext.refl _) ⟨some ⟨b, 0, none⟩, d, by rw [backF_yes hyes, hyes]; simp, by rw [backF_yes hyes]; exact ⟨hfin.sl hbb, hx2, .inr ⟨b, e, cs, rfl, hbf, hw0, hbb, hfin.1⟩⟩⟩

theorem implBack {w0 : World} {σ : Sg} (p : Option Addr) (c : Nat) (xs : List (Int × Nat × Nat)) (hs : Sl σ 3 p (xs.map el)) (hn : xs.length ≤ 1048576) : Fn Try.prog w0 32 [.slice p xs.length c] σ (RetFS w0 σ 3 ((backF xs).map el) (backF xs).length (fun v => .tuple #[v, .bool (backB xs)])) := by
  by_cases h0 : xs.length = 0
  · exact implBackZ p c xs hs hn h0
  · exact implBackN p c xs hs hn (by omega)

theorem lawBack {w0 : World} {σ : Sg} (p : Option Addr) (c : Nat) (xs : List (Int × Nat × Nat)) (hs : Sl σ 3 p (xs.map el)) (hm : xs.length ≤ maxLen) :
    Fn Try.prog w0 8 [(.slice p xs.length c)] σ (fun u _ => u = .bool true) := by
  refine Fn.of_W 96 Try.func8 rfl Try.ntmps8 rfl ?_
  refine W.seq ?_
  refine W.region ?_
  refine L.v (o_assign (v := (.bool false)) rfl) ?_
  refine L.nil ?_
  refine W.seq ?_
  refine W.region ?_
  refine L.v (o_assign (v := (.int .i64 1048576)) rfl) ?_
  refine L.nil ?_
  refine W.seq ?_
  refine W.region ?_
  refine L.v (o_move (v := (.slice p xs.length c)) rfl) ?_
  refine L.v (o_move (v := (.int .i64 1048576)) rfl) ?_
  refine L.v (v := (.int .i64 (szF 1048576 xs.length))) (op_call [(.slice p xs.length c), (.int .i64 1048576)] Try.call24 rfl (szElem_c p xs.length c 1048576 hm (by decide))) ?_
  refine L.v (o_assign (v := (.int .i64 (szF 1048576 xs.length))) rfl) ?_
  refine L.nil ?_
  refine W.seq ?_
  refine W.seq ?_
  refine W.region ?_
  refine L.v (o_move (v := (.int .i64 (szF 1048576 xs.length))) rfl) ?_
  refine L.v (o_ilss (a := szF 1048576 xs.length) (b := 0) rfl rfl rfl) ?_
  refine L.nil ?_
  refine W.cond (b := decide ((szF 1048576 xs.length : Int) < 0)) rfl (fun q1 => ?_) (fun q1 => ?_)
  ·
    have a2 : (szF 1048576 xs.length : Int) < 0 := of_decide_eq_true q1
    refine W.seq ?_
    refine W.region ?_
    refine L.v (o_assign (v := (.bool true)) rfl) ?_
    refine L.nil ?_
    refine W.ret ?_
    exact RetK.one _ (.bool true) rfl rfl (Ext.refl _) rfl
  ·
    have a3 : ¬ ((szF 1048576 xs.length : Int) < 0) := of_decide_eq_false q1
    refine W.skip ?_
    refine W.seq ?_
    have hlen : xs.length ≤ 1048576 := szF_ok (by assumption)
    refine W.region ?_
    refine L.v (o_move (v := (.slice p xs.length c)) rfl) ?_
    refine L.cons (op_call [(.slice p xs.length c)] Try.call26 rfl (toElemS p c xs hs (by omega))) ?_
    rintro _ s6 ⟨p4, rfl, fs7⟩
    have ap8 : Apart (xs.length) (xs.length) p4 p := by simpa using Fsl.apart fs7 hs (el_ne _)
    have hs9 := Sl.ext hs fs7.ext
    have ex10 := Ext.trans (Ext.refl σ) fs7.ext
    have mu11 := Fsl.mut fs7 (xs.length * 3) (by simp)
    refine L.cons (op_call [(.slice p4 xs.length xs.length)] Try.call31 rfl (specBack p4 xs.length xs (Fsl.reads fs7) (by omega))) ?_
    rintro _ s14 ⟨p12, c13, rfl, fs15⟩
    have ap16 : Apart ((backF xs).length) (xs.length) p12 p := by simpa using Fsl.apart fs15 hs9 (el_ne _)
    have ap17 : Apart ((backF xs).length) (xs.length) p12 p4 := by simpa using Fsl.apart fs15 (Fsl.reads fs7) (el_ne _)
    have hs18 := Sl.ext hs9 fs15.ext
    have hs19 := Sl.ext (Fsl.reads fs7) fs15.ext
    have mu20 := Mut.ext mu11 fs15.ext
    have ex21 := Ext.trans ex10 fs15.ext
    have mu22 := Fsl.mut fs15 (((backF xs).length) * 3) (by simp)
    refine L.v (o_move (v := (.tuple #[(.slice p12 ((backF xs).length) c13), (.bool (backB xs))])) rfl) ?_
    refine L.v (o_extract (vs := #[(.slice p12 ((backF xs).length) c13), (.bool (backB xs))]) (v := (.slice p12 ((backF xs).length) c13)) rfl rfl rfl) ?_
    refine L.v (o_extract (vs := #[(.slice p12 ((backF xs).length) c13), (.bool (backB xs))]) (v := (.bool (backB xs))) rfl rfl rfl) ?_
    refine L.v (o_assign (v := (.slice p12 ((backF xs).length) c13)) rfl) ?_
    refine L.v (o_assign (v := (.bool (backB xs))) rfl) ?_
    refine L.nil ?_
    refine W.seq ?_
    refine W.region ?_
    refine L.v (o_move (v := (.slice p xs.length c)) rfl) ?_
    refine L.cons (op_call [(.slice p xs.length c)] Try.call26 rfl (toElemS p c xs hs18 (by omega))) ?_
    rintro _ s25 ⟨p23, rfl, fs26⟩
    have ap27 : Apart (xs.length) (xs.length) p23 p := by simpa using Fsl.apart fs26 hs18 (el_ne _)
    have ap28 : Apart (xs.length) (xs.length) p23 p4 := by simpa using Fsl.apart fs26 hs19 (el_ne _)
    have ap29 : Apart (xs.length) ((backF xs).length) p23 p12 := by simpa using Fsl.apart fs26 (Fsl.reads fs15) (el_ne _)
    have hs30 := Sl.ext hs18 fs26.ext
    have hs31 := Sl.ext hs19 fs26.ext
    have mu32 := Mut.ext mu20 fs26.ext
    have hs33 := Sl.ext (Fsl.reads fs15) fs26.ext
    have mu34 := Mut.ext mu22 fs26.ext
    have ex35 := Ext.trans ex21 fs26.ext
    have mu36 := Fsl.mut fs26 (xs.length * 3) (by simp)
    refine L.v (o_assign (v := (.slice p23 xs.length xs.length)) rfl) ?_
    refine L.nil ?_
    refine W.seq ?_
    refine W.region ?_
    refine L.v (o_move (v := (.slice p23 xs.length xs.length)) rfl) ?_
    refine L.cons (op_call [(.slice p23 xs.length xs.length)] Try.call32 rfl (implBack p23 xs.length xs (Fsl.reads fs26) (by omega))) ?_
    rintro _ s39 ⟨p37, c38, rfl, fs40⟩
    have ap41 : Apart ((backF xs).length) (xs.length) p37 p := by simpa using Fsl.apart fs40 hs30 (el_ne _)
    have ap42 : Apart ((backF xs).length) (xs.length) p37 p4 := by simpa using Fsl.apart fs40 hs31 (el_ne _)
    have ap43 : Apart ((backF xs).length) ((backF xs).length) p37 p12 := by simpa using Fsl.apart fs40 hs33 (el_ne _)
    have ap44 : Apart ((backF xs).length) (xs.length) p37 p23 := by simpa using Fsl.apart fs40 (Fsl.reads fs26) (el_ne _)
    have hs45 := Sl.ext hs30 fs40.ext
    have hs46 := Sl.ext hs31 fs40.ext
    have mu47 := Mut.ext mu32 fs40.ext
    have hs48 := Sl.ext hs33 fs40.ext
    have mu49 := Mut.ext mu34 fs40.ext
    have hs50 := Sl.ext (Fsl.reads fs26) fs40.ext
    have mu51 := Mut.ext mu36 fs40.ext
    have ex52 := Ext.trans ex35 fs40.ext
    have mu53 := Fsl.mut fs40 (((backF xs).length) * 3) (by simp)
    refine L.v (o_move (v := (.tuple #[(.slice p37 ((backF xs).length) c38), (.bool (backB xs))])) rfl) ?_
    refine L.v (o_extract (vs := #[(.slice p37 ((backF xs).length) c38), (.bool (backB xs))]) (v := (.slice p37 ((backF xs).length) c38)) rfl rfl rfl) ?_
    refine L.v (o_extract (vs := #[(.slice p37 ((backF xs).length) c38), (.bool (backB xs))]) (v := (.bool (backB xs))) rfl rfl rfl) ?_
    refine L.v (o_assign (v := (.slice p37 ((backF xs).length) c38)) rfl) ?_
    refine L.v (o_assign (v := (.bool (backB xs))) rfl) ?_
    refine L.nil ?_
    refine W.seq ?_
    refine W.seq ?_
    refine W.region ?_
    refine L.v (o_move (v := (.slice p37 ((backF xs).length) c38)) rfl) ?_
    refine L.v (o_move (v := (.slice p12 ((backF xs).length) c13)) rfl) ?_
    refine L.v (v := (.bool true)) (op_call [(.slice p37 ((backF xs).length) c38), (.slice p12 ((backF xs).length) c13)] Try.call28 rfl (eqElemS p37 p12 c38 c13 (backF xs) (Fsl.reads fs40) hs48 (by first | omega | exact backF_le _))) ?_
    refine L.v (o_not (b := true) (c := false) rfl rfl) ?_
    refine L.v (o_move (v := (.bool false)) rfl) ?_
    refine L.gv (j := 4) (d₁ := 36) (b := false) rfl rfl rfl rfl (o_move (v := (.bool (backB xs))) rfl) ?_
    refine L.gv (j := 4) (d₁ := 36) (b := false) rfl rfl rfl rfl (o_move (v := (.bool (backB xs))) rfl) ?_
    refine L.gv (j := 4) (d₁ := 36) (b := false) rfl rfl rfl rfl (o_bneq (a := backB xs) (b := backB xs) (c := false) Try.underlying4 rfl rfl (by simp)) ?_
    refine L.v (o_pickF (b := false) (v := (.bool false)) rfl rfl rfl) ?_
    refine L.nil ?_
    refine W.condF (b := false) rfl rfl ?_
    refine W.skip ?_
    refine W.seq ?_
    refine W.seq ?_
    refine W.region ?_
    refine L.v (o_move (v := (.slice p23 xs.length xs.length)) rfl) ?_
    refine L.v (o_move (v := (.slice p xs.length c)) rfl) ?_
    refine L.cons (op_call [(.slice p xs.length c)] Try.call26 rfl (toElemS p c xs hs45 (by omega))) ?_
    rintro _ s56 ⟨p54, rfl, fs57⟩
    have ap58 : Apart (xs.length) (xs.length) p54 p := by simpa using Fsl.apart fs57 hs45 (el_ne _)
    have ap59 : Apart (xs.length) (xs.length) p54 p4 := by simpa using Fsl.apart fs57 hs46 (el_ne _)
    have ap60 : Apart (xs.length) ((backF xs).length) p54 p12 := by simpa using Fsl.apart fs57 hs48 (el_ne _)
    have ap61 : Apart (xs.length) (xs.length) p54 p23 := by simpa using Fsl.apart fs57 hs50 (el_ne _)
    have ap62 : Apart (xs.length) ((backF xs).length) p54 p37 := by simpa using Fsl.apart fs57 (Fsl.reads fs40) (el_ne _)
    have hs63 := Sl.ext hs45 fs57.ext
    have hs64 := Sl.ext hs46 fs57.ext
    have mu65 := Mut.ext mu47 fs57.ext
    have hs66 := Sl.ext hs48 fs57.ext
    have mu67 := Mut.ext mu49 fs57.ext
    have hs68 := Sl.ext hs50 fs57.ext
    have mu69 := Mut.ext mu51 fs57.ext
    have hs70 := Sl.ext (Fsl.reads fs40) fs57.ext
    have mu71 := Mut.ext mu53 fs57.ext
    have ex72 := Ext.trans ex52 fs57.ext
    have mu73 := Fsl.mut fs57 (xs.length * 3) (by simp)
    refine L.v (v := (.bool true)) (op_call [(.slice p23 xs.length xs.length), (.slice p54 xs.length xs.length)] Try.call28 rfl (eqElemS p23 p54 xs.length xs.length xs hs68 (Fsl.reads fs57) (by first | omega | exact backF_le _))) ?_
    refine L.v (o_not (b := true) (c := false) rfl rfl) ?_
    refine L.nil ?_
    refine W.condF (b := false) rfl rfl ?_
    refine W.skip ?_
    refine W.seq ?_
    refine W.region ?_
    refine L.v (o_assign (v := (.int .i64 1)) rfl) ?_
    refine L.nil ?_
    refine W.seq ?_
    refine W.region ?_
    refine L.v (o_move (v := (.slice p23 xs.length xs.length)) rfl) ?_
    refine L.v (o_move (v := (.int .i64 1)) rfl) ?_
    refine L.cons (op_call [(.slice p23 xs.length xs.length), (.int .i64 1)] Try.call33 rfl (markES p23 xs.length xs.length 1 mu69 (by first | omega | exact backF_le _) (by omega))) ?_
    rintro _ s74 ⟨rfl, mk75, sl76⟩
    have hs77 := Sl.mkd hs63 mk75 (by simpa using ap27)
    have hs78 := Sl.mkd hs64 mk75 (by simpa using ap28)
    have mu79 := Mut.mkd mu65 mk75 ap28 (by first | (simp; done) | omega)
    have hs80 := Sl.mkd hs66 mk75 (by simpa using ap29)
    have mu81 := Mut.mkd mu67 mk75 ap29 (by first | (simp; done) | omega)
    have hs82 := Sl.mkd hs70 mk75 (by simpa using (Apart.symm ap44))
    have mu83 := Mut.mkd mu71 mk75 (Apart.symm ap44) (by first | (simp; done) | omega)
    have hs84 := Sl.mkd (Fsl.reads fs57) mk75 (by simpa using (Apart.symm ap61))
    have mu85 := Mut.mkd mu73 mk75 (Apart.symm ap61) (by first | (simp; done) | omega)
    refine L.v (o_assign (v := (.int .i64 (1 + 3 * (xs.length : Int)))) rfl) ?_
    refine L.nil ?_
    refine W.seq ?_
    refine W.seq ?_
    refine W.region ?_
    refine L.v (o_move (v := (.int .i64 (1 + 3 * (xs.length : Int)))) rfl) ?_
    refine L.v (o_ilss (a := 1 + 3 * (xs.length : Int)) (b := 0) rfl rfl rfl) ?_
    refine L.v (o_move (v := (.bool (decide ((1 + 3 * (xs.length : Int) : Int) < 0)))) rfl) ?_
    refine L.gv (j := 2) (d₁ := 51) (b := decide ((1 + 3 * (xs.length : Int) : Int) < 0)) rfl rfl rfl (decide_eq_false (by omega)) (o_move (v := (.slice p37 ((backF xs).length) c38)) rfl) ?_
    refine L.gv (j := 2) (d₁ := 51) (b := decide ((1 + 3 * (xs.length : Int) : Int) < 0)) rfl rfl rfl (decide_eq_false (by omega)) (o_move (v := (.slice p12 ((backF xs).length) c13)) rfl) ?_
    refine L.gv (j := 2) (d₁ := 51) (b := decide ((1 + 3 * (xs.length : Int) : Int) < 0)) rfl rfl rfl (decide_eq_false (by omega)) (v := (.bool true)) (op_call [(.slice p37 ((backF xs).length) c38), (.slice p12 ((backF xs).length) c13)] Try.call28 rfl (eqElemS p37 p12 c38 c13 (backF xs) hs82 hs80 (by first | omega | exact backF_le _))) ?_
    refine L.gv (j := 2) (d₁ := 51) (b := decide ((1 + 3 * (xs.length : Int) : Int) < 0)) rfl rfl rfl (decide_eq_false (by omega)) (o_not (b := true) (c := false) rfl rfl) ?_
    refine L.v (o_pickF (b := decide ((1 + 3 * (xs.length : Int) : Int) < 0)) (v := (.bool false)) rfl (decide_eq_false (by omega)) rfl) ?_
    refine L.v (o_move (v := (.bool false)) rfl) ?_
    refine L.gv (j := 8) (d₁ := 57) (b := false) rfl rfl rfl rfl (o_move (v := (.bool (backB xs))) rfl) ?_
    refine L.gv (j := 8) (d₁ := 57) (b := false) rfl rfl rfl rfl (o_move (v := (.bool (backB xs))) rfl) ?_
    refine L.gv (j := 8) (d₁ := 57) (b := false) rfl rfl rfl rfl (o_bneq (a := backB xs) (b := backB xs) (c := false) Try.underlying4 rfl rfl (by simp)) ?_
    refine L.v (o_pickF (b := false) (v := (.bool false)) rfl rfl rfl) ?_
    refine L.nil ?_
    refine W.condF (b := false) rfl rfl ?_
    refine W.skip ?_
    refine W.seq ?_
    refine W.region ?_
    refine L.v (o_assign (v := (.int .i64 1)) rfl) ?_
    refine L.nil ?_
    refine W.seq ?_
    refine W.region ?_
    refine L.v (o_move (v := (.slice p37 ((backF xs).length) c38)) rfl) ?_
    refine L.v (o_move (v := (.int .i64 1)) rfl) ?_
    refine L.cons (op_call [(.slice p37 ((backF xs).length) c38), (.int .i64 1)] Try.call33 rfl (markES p37 ((backF xs).length) c38 1 mu83 (by first | omega | exact backF_le _) (by omega))) ?_
    rintro _ s86 ⟨rfl, mk87, sl88⟩
    have hs89 := Sl.mkd hs77 mk87 (by simpa using ap41)
    have hs90 := Sl.mkd hs78 mk87 (by simpa using ap42)
    have mu91 := Mut.mkd mu79 mk87 ap42 (by first | (simp; done) | omega)
    have hs92 := Sl.mkd hs80 mk87 (by simpa using ap43)
    have mu93 := Mut.mkd mu81 mk87 ap43 (by first | (simp; done) | omega)
    have hs94 := Sl.mkd sl76 mk87 (by simpa using ap44)
    have hs95 := Sl.mkd hs84 mk87 (by simpa using (Apart.symm ap62))
    have mu96 := Mut.mkd mu85 mk87 (Apart.symm ap62) (by first | (simp; done) | omega)
    refine L.v (o_assign (v := (.int .i64 (1 + 3 * (((backF xs).length : Nat) : Int)))) rfl) ?_
    refine L.nil ?_
    refine W.seq ?_
    refine W.region ?_
    refine L.v (o_assign (v := (.int .i64 1)) rfl) ?_
    refine L.nil ?_
    refine W.seq ?_
    refine W.region ?_
    refine L.v (o_move (v := (.slice p37 ((backF xs).length) c38)) rfl) ?_
    refine L.v (o_move (v := (.int .i64 1)) rfl) ?_
    refine L.v (v := (.int .i64 (1 + 3 * (((backF xs).length : Nat) : Int)))) (op_call [(.slice p37 ((backF xs).length) c38), (.int .i64 1)] Try.call34 rfl (heldES p37 ((backF xs).length) c38 1 sl88 (by first | omega | exact backF_le _) (by omega))) ?_
    refine L.v (o_assign (v := (.int .i64 (1 + 3 * (((backF xs).length : Nat) : Int)))) rfl) ?_
    refine L.nil ?_
    refine W.seq ?_
    refine W.seq ?_
    refine W.region ?_
    refine L.v (o_move (v := (.int .i64 (1 + 3 * (((backF xs).length : Nat) : Int)))) rfl) ?_
    refine L.v (o_ilss (a := 1 + 3 * (((backF xs).length : Nat) : Int)) (b := 0) rfl rfl rfl) ?_
    refine L.nil ?_
    refine W.condF (b := decide ((1 + 3 * (((backF xs).length : Nat) : Int) : Int) < 0)) rfl (decide_eq_false (by omega)) ?_
    refine W.skip ?_
    refine W.seq ?_
    refine W.seq ?_
    refine W.region ?_
    refine L.v (o_move (v := (.int .i64 (1 + 3 * (((backF xs).length : Nat) : Int)))) rfl) ?_
    refine L.v (o_move (v := (.int .i64 (1 + 3 * (((backF xs).length : Nat) : Int)))) rfl) ?_
    refine L.v (o_ineq (a := 1 + 3 * (((backF xs).length : Nat) : Int)) (b := 1 + 3 * (((backF xs).length : Nat) : Int)) (c := false) rfl rfl (by simp)) ?_
    refine L.nil ?_
    refine W.condF (b := false) rfl rfl ?_
    refine W.skip ?_
    refine W.seq ?_
    refine W.region ?_
    refine L.v (o_move (v := (.slice p xs.length c)) rfl) ?_
    refine L.cons (op_call [(.slice p xs.length c)] Try.call26 rfl (toElemS p c xs hs89 (by omega))) ?_
    rintro _ s99 ⟨p97, rfl, fs100⟩
    have ap101 : Apart (xs.length) (xs.length) p97 p := by simpa using Fsl.apart fs100 hs89 (el_ne _)
    have ap102 : Apart (xs.length) (xs.length) p97 p4 := by simpa using Fsl.apart fs100 hs90 (el_ne _)
    have ap103 : Apart (xs.length) ((backF xs).length) p97 p12 := by simpa using Fsl.apart fs100 hs92 (el_ne _)
    have ap104 : Apart (xs.length) (xs.length) p97 p23 := by simpa using Fsl.apart fs100 hs94 (el_ne _)
    have ap105 : Apart (xs.length) ((backF xs).length) p97 p37 := by simpa using Fsl.apart fs100 sl88 (el_ne _)
    have ap106 : Apart (xs.length) (xs.length) p97 p54 := by simpa using Fsl.apart fs100 hs95 (el_ne _)
    have hs107 := Sl.ext hs89 fs100.ext
    have hs108 := Sl.ext hs90 fs100.ext
    have mu109 := Mut.ext mu91 fs100.ext
    have hs110 := Sl.ext hs92 fs100.ext
    have mu111 := Mut.ext mu93 fs100.ext
    have hs112 := Sl.ext hs94 fs100.ext
    have hs113 := Sl.ext sl88 fs100.ext
    have hs114 := Sl.ext hs95 fs100.ext
    have mu115 := Mut.ext mu96 fs100.ext
    have mu116 := Fsl.mut fs100 (xs.length * 3) (by simp)
    refine L.cons (op_call [(.slice p97 xs.length xs.length)] Try.call32 rfl (implBack p97 xs.length xs (Fsl.reads fs100) (by omega))) ?_
    rintro _ s119 ⟨p117, c118, rfl, fs120⟩
    have ap121 : Apart ((backF xs).length) (xs.length) p117 p := by simpa using Fsl.apart fs120 hs107 (el_ne _)
    have ap122 : Apart ((backF xs).length) (xs.length) p117 p4 := by simpa using Fsl.apart fs120 hs108 (el_ne _)
    have ap123 : Apart ((backF xs).length) ((backF xs).length) p117 p12 := by simpa using Fsl.apart fs120 hs110 (el_ne _)
    have ap124 : Apart ((backF xs).length) (xs.length) p117 p23 := by simpa using Fsl.apart fs120 hs112 (el_ne _)
    have ap125 : Apart ((backF xs).length) ((backF xs).length) p117 p37 := by simpa using Fsl.apart fs120 hs113 (el_ne _)
    have ap126 : Apart ((backF xs).length) (xs.length) p117 p54 := by simpa using Fsl.apart fs120 hs114 (el_ne _)
    have ap127 : Apart ((backF xs).length) (xs.length) p117 p97 := by simpa using Fsl.apart fs120 (Fsl.reads fs100) (el_ne _)
    have hs128 := Sl.ext hs107 fs120.ext
    have hs129 := Sl.ext hs108 fs120.ext
    have mu130 := Mut.ext mu109 fs120.ext
    have hs131 := Sl.ext hs110 fs120.ext
    have mu132 := Mut.ext mu111 fs120.ext
    have hs133 := Sl.ext hs112 fs120.ext
    have hs134 := Sl.ext hs113 fs120.ext
    have hs135 := Sl.ext hs114 fs120.ext
    have mu136 := Mut.ext mu115 fs120.ext
    have hs137 := Sl.ext (Fsl.reads fs100) fs120.ext
    have mu138 := Mut.ext mu116 fs120.ext
    have mu139 := Fsl.mut fs120 (((backF xs).length) * 3) (by simp)
    refine L.v (o_move (v := (.tuple #[(.slice p117 ((backF xs).length) c118), (.bool (backB xs))])) rfl) ?_
    refine L.v (o_extract (vs := #[(.slice p117 ((backF xs).length) c118), (.bool (backB xs))]) (v := (.slice p117 ((backF xs).length) c118)) rfl rfl rfl) ?_
    refine L.v (o_extract (vs := #[(.slice p117 ((backF xs).length) c118), (.bool (backB xs))]) (v := (.bool (backB xs))) rfl rfl rfl) ?_
    refine L.v (o_assign (v := (.slice p117 ((backF xs).length) c118)) rfl) ?_
    refine L.v (o_assign (v := (.bool (backB xs))) rfl) ?_
    refine L.nil ?_
    refine W.seq ?_
    refine W.seq ?_
    refine W.region ?_
    refine L.v (o_move (v := (.slice p117 ((backF xs).length) c118)) rfl) ?_
    refine L.v (o_move (v := (.slice p12 ((backF xs).length) c13)) rfl) ?_
    refine L.v (v := (.bool true)) (op_call [(.slice p117 ((backF xs).length) c118), (.slice p12 ((backF xs).length) c13)] Try.call28 rfl (eqElemS p117 p12 c118 c13 (backF xs) (Fsl.reads fs120) hs131 (by first | omega | exact backF_le _))) ?_
    refine L.v (o_not (b := true) (c := false) rfl rfl) ?_
    refine L.v (o_move (v := (.bool false)) rfl) ?_
    refine L.gv (j := 4) (d₁ := 83) (b := false) rfl rfl rfl rfl (o_move (v := (.bool (backB xs))) rfl) ?_
    refine L.gv (j := 4) (d₁ := 83) (b := false) rfl rfl rfl rfl (o_move (v := (.bool (backB xs))) rfl) ?_
    refine L.gv (j := 4) (d₁ := 83) (b := false) rfl rfl rfl rfl (o_bneq (a := backB xs) (b := backB xs) (c := false) Try.underlying4 rfl rfl (by simp)) ?_
    refine L.v (o_pickF (b := false) (v := (.bool false)) rfl rfl rfl) ?_
    refine L.nil ?_
    refine W.condF (b := false) rfl rfl ?_
    refine W.skip ?_
    refine W.seq ?_
    refine W.region ?_
    refine L.v (o_assign (v := (.int .i64 1)) rfl) ?_
    refine L.nil ?_
    refine W.seq ?_
    refine W.region ?_
    refine L.v (o_move (v := (.slice p37 ((backF xs).length) c38)) rfl) ?_
    refine L.v (o_move (v := (.int .i64 1)) rfl) ?_
    refine L.v (v := (.int .i64 (1 + 3 * (((backF xs).length : Nat) : Int)))) (op_call [(.slice p37 ((backF xs).length) c38), (.int .i64 1)] Try.call34 rfl (heldES p37 ((backF xs).length) c38 1 hs134 (by first | omega | exact backF_le _) (by omega))) ?_
    refine L.v (o_assign (v := (.int .i64 (1 + 3 * (((backF xs).length : Nat) : Int)))) rfl) ?_
    refine L.nil ?_
    refine W.seq ?_
    refine W.seq ?_
    refine W.region ?_
    refine L.v (o_move (v := (.int .i64 (1 + 3 * (((backF xs).length : Nat) : Int)))) rfl) ?_
    refine L.v (o_ilss (a := 1 + 3 * (((backF xs).length : Nat) : Int)) (b := 0) rfl rfl rfl) ?_
    refine L.nil ?_
    refine W.condF (b := decide ((1 + 3 * (((backF xs).length : Nat) : Int) : Int) < 0)) rfl (decide_eq_false (by omega)) ?_
    refine W.skip ?_
    refine W.seq ?_
    refine W.seq ?_
    refine W.region ?_
    refine L.v (o_move (v := (.int .i64 (1 + 3 * (((backF xs).length : Nat) : Int)))) rfl) ?_
    refine L.v (o_move (v := (.int .i64 (1 + 3 * (((backF xs).length : Nat) : Int)))) rfl) ?_
    refine L.v (o_ineq (a := 1 + 3 * (((backF xs).length : Nat) : Int)) (b := 1 + 3 * (((backF xs).length : Nat) : Int)) (c := false) rfl rfl (by simp)) ?_
    refine L.nil ?_
    refine W.condF (b := false) rfl rfl ?_
    refine W.skip ?_
    refine W.seq ?_
    refine W.region ?_
    refine L.v (o_assign (v := (.bool true)) rfl) ?_
    refine L.nil ?_
    refine W.ret ?_
    exact RetK.one _ (.bool true) rfl rfl (Ext.refl _) rfl

end Go.Proofs.Ytpgmpjejfpmnoaa.En
