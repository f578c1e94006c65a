/- RowsFor in the program and in the reference: what each call gives. -/
import Derived.Test.YtpgmpjejfpmnoaaRow
import Derived.Test.YtpgmpjejfpmnoaaInts
import Derived.Test.YtpgmpjejfpmnoaaRows
namespace Go.Proofs.Ytpgmpjejfpmnoaa.En
open Go
set_option linter.unusedVariables false
def sl1 (b : Nat) : Value := .slice (some ⟨b, 0, .none⟩) 2 2
/-- a list of lists of two numbers, being built: v holds the list, bs the inner blocks, rows what they hold -/
structure RI (w0 : World) (σ s : Sg) (v : Value) (bs : List Nat) (rows : List (Int × Int)) : Prop where
  own : Own w0 s 62 1 v bs.length (bs.map sl1)
  ext : Ext σ s
  fresh : ∀ b, v.ownBlock = some b → σ b = .none
  len : bs.length = rows.length
  inb : InB s bs rows
  low : ∀ j, j < bs.length → w0.heap.size ≤ bs.getD j 0 ∧ σ (bs.getD j 0) = .none
  inj : ∀ i j, i < bs.length → j < bs.length → bs.getD i 0 = bs.getD j 0 → i = j
  apart : ∀ b, v.ownBlock = some b → b ∉ bs
theorem Own.tracked {w0 : World} {s : Sg} {e size n : Nat} {v : Value} {xs : List Value} (h : Own w0 s e size v n xs) : ∀ b, v.ownBlock = some b → s b ≠ .none := by
  intro b hb
  rcases h.2 with ⟨rfl, _⟩ | ⟨g, cap, cur, rfl, _, hg, _⟩
  · simp [Value.ownBlock] at hb
  · simp [Value.ownBlock] at hb
    subst hb
    rw [hg]; exact fun h => by cases h
theorem getD_mem {bs : List Nat} {j : Nat} (h : j < bs.length) : bs.getD j 0 ∈ bs := by
  rw [List.getD_eq_getElem?_getD, List.getElem?_eq_getElem h]; exact List.getElem_mem _
theorem mem_getD {bs : List Nat} {b : Nat} (h : b ∈ bs) : ∃ j, j < bs.length ∧ bs.getD j 0 = b := by
  obtain ⟨j, hj, e⟩ := List.getElem_of_mem h
  exact ⟨j, hj, by rw [List.getD_eq_getElem?_getD, List.getElem?_eq_getElem hj]; exact e⟩
theorem getD_old {bs : List Nat} {j b : Nat} (h : j < bs.length) : (bs ++ [b]).getD j 0 = bs.getD j 0 := by
  simp [List.getD_eq_getElem?_getD, List.getElem?_append_left h]
theorem getD_new {bs : List Nat} {b : Nat} : (bs ++ [b]).getD bs.length 0 = b := by
  simp [List.getD_eq_getElem?_getD]
theorem pr_old {rows : List (Int × Int)} {r : Int × Int} {j : Nat} (h : j < rows.length) : pr (rows ++ [r]) j = pr rows j := by
  simp [pr, List.getD_eq_getElem?_getD, List.getElem?_append_left h]
theorem pr_new {rows : List (Int × Int)} {r : Int × Int} : pr (rows ++ [r]) rows.length = [r.1, r.2] := by
  simp [pr, List.getD_eq_getElem?_getD]
theorem RI.step {w0 : World} {σ s s3 : Sg} {v v' : Value} {bs : List Nat} {rows : List (Int × Int)} {b2 b3 : Nat} {a c : Int} (h : RI w0 σ s v bs rows) (hw : w0.heap.size ≤ b2) (f2 : s b2 = .none) (f3 : sg s b2 (2, [.int .i64 a, .int .i64 c]) b3 = .none)
    (ho : Own w0 s3 62 1 v' (bs.length + 1) (bs.map sl1 ++ [sl1 b2])) (hg : Grew (sg (sg s b2 (2, [.int .i64 a, .int .i64 c])) b3 (62, [sl1 b2])) s3 v v') : RI w0 σ s3 v' (bs ++ [b2]) (rows ++ [(a, c)]) := by
  have hne : b3 ≠ b2 := fun e => by rw [e, sg_eq] at f3; cases f3
  have x1 : Ext s (sg s b2 (2, [.int .i64 a, .int .i64 c])) := (Ext.refl _).sg f2
  have x2 : Ext (sg s b2 (2, [.int .i64 a, .int .i64 c])) (sg (sg s b2 (2, [.int .i64 a, .int .i64 c])) b3 (62, [sl1 b2])) := (Ext.refl _).sg f3
  have t2 : sg (sg s b2 (2, [.int .i64 a, .int .i64 c])) b3 (62, [sl1 b2]) b2 = some (2, [.int .i64 a, .int .i64 c]) := x2 _ _ (sg_eq _ _ _)
  have vb : ∀ b, v.ownBlock = some b → b ≠ b2 := fun b hb e => h.own.tracked b hb (by rw [e]; exact f2)
  have told : ∀ j, j < bs.length → s (bs.getD j 0) = some (2, (pr rows j).map (Value.int .i64)) := fun j hj => h.inb j (by rw [← h.len]; exact hj)
  have old : ∀ j, j < bs.length → s3 (bs.getD j 0) = some (2, (pr rows j).map (Value.int .i64)) := fun j hj =>
    hg.1 _ _ (x2 _ _ (x1 _ _ (told j hj))) fun e => h.apart _ e (getD_mem hj)
  have nold : ∀ j, j < bs.length → bs.getD j 0 ≠ b2 := fun j hj e => by have := told j hj; rw [e, f2] at this; cases this
  refine ⟨by rw [List.length_append, List.map_append]; exact ho, Grew.ext hg (h.ext.trans (x1.trans x2)) h.fresh, Grew.fresh hg (h.ext.trans (x1.trans x2)) h.fresh, by simp [h.len], ?_, ?_, ?_, ?_⟩
  · intro j hj
    by_cases hlt : j < bs.length
    · rw [getD_old hlt, pr_old (by rw [← h.len]; exact hlt)]; exact old j hlt
    · have e : j = bs.length := by have := h.len; simp at hj; omega
      subst e
      rw [getD_new, h.len, pr_new]
      exact hg.1 _ _ t2 fun e => vb _ e rfl
  · intro j hj
    by_cases hlt : j < bs.length
    · rw [getD_old hlt]; exact h.low j hlt
    · have e : j = bs.length := by simp at hj; omega
      subst e
      rw [getD_new]; exact ⟨hw, Ext.none h.ext f2⟩
  · intro i j hi hj e
    by_cases h1 : i < bs.length
    · by_cases h2 : j < bs.length
      · rw [getD_old h1, getD_old h2] at e; exact h.inj i j h1 h2 e
      · have e2 : j = bs.length := by simp at hj; omega
        subst e2
        rw [getD_old h1, getD_new] at e; exact absurd e (nold i h1)
    · have e1 : i = bs.length := by simp at hi; omega
      by_cases h2 : j < bs.length
      · subst e1
        rw [getD_old h2, getD_new] at e; exact absurd e.symm (nold j h2)
      · simp at hj; omega
  · intro b hb hm
    rcases hg.2 b hb with h1 | h1
    · rcases List.mem_append.1 hm with h2 | h2
      · exact h.apart b h1 h2
      · exact vb b h1 (by simpa using h2)
    · rcases List.mem_append.1 hm with h2 | h2
      · obtain ⟨j, hj, e⟩ := mem_getD h2
        have := x2 _ _ (x1 _ _ (told j hj))
        rw [e, h1] at this; cases this
      · have e : b = b2 := by simpa using h2
        rw [e, t2] at h1; cases h1
theorem flat_sc (bs : List Nat) : (bs.map sc).flatten = bs.map sl1 := by
  induction bs with
  | nil => rfl
  | cons x xs ih => simp [sc, sl1]; simpa [sl1] using ih
/-- a list of lists of two numbers, all of it new -/
structure LS (w0 : World) (σ s : Sg) (p : Option Addr) (bs : List Nat) (rows : List (Int × Int)) : Prop where
  reads : Sl s 1 p (bs.map sc)
  ext : Ext σ s
  len : bs.length = rows.length
  inb : InB s bs rows
  low : ∀ j, j < bs.length → w0.heap.size ≤ bs.getD j 0 ∧ σ (bs.getD j 0) = .none
  inj : ∀ i j, i < bs.length → j < bs.length → bs.getD i 0 = bs.getD j 0 → i = j
  apart : ∀ b off, p = some ⟨b, off, .none⟩ → b ∉ bs
  free : ∀ b off, p = some ⟨b, off, .none⟩ → σ b = .none
theorem LS.of_RI {w0 : World} {σ s : Sg} {v : Value} {bs : List Nat} {rows : List (Int × Int)} (h : RI w0 σ s v bs rows) : ∃ p c, v = .slice p rows.length c ∧ LS w0 σ s p bs rows := by
  obtain ⟨p, c, hv, hf⟩ := Fsl.of_own (rows := bs.map sc) (n := bs.length) (by rw [flat_sc]; exact h.own) (by simp) (by simp [sc]) h.ext h.fresh
  have hb : ∀ b off, p = some ⟨b, off, .none⟩ → v.ownBlock = some b := fun b off e => by
    rcases hf.own with h1 | ⟨b', e', cs, h1, _⟩
    · rw [h1] at e; cases e
    · rw [h1] at e; cases e
      rw [hv, h1]; simp [Value.ownBlock]
  exact ⟨p, c, by rw [hv, h.len], hf.reads, h.ext, h.len, h.inb, h.low, h.inj, fun b off e => h.apart b (hb b off e), fun b off e => h.fresh b (hb b off e)⟩
theorem LS.weaken {w0 : World} {σ s0 s : Sg} {p : Option Addr} {bs : List Nat} {rows : List (Int × Int)} (h : LS w0 s0 s p bs rows) (hx : Ext σ s0) : LS w0 σ s p bs rows :=
  ⟨h.reads, hx.trans h.ext, h.len, h.inb, fun j hj => ⟨(h.low j hj).1, Ext.none hx (h.low j hj).2⟩, h.inj, h.apart, fun b off e => Ext.none hx (h.free b off e)⟩
theorem LS.nil {w0 : World} {σ : Sg} : LS w0 σ σ .none [] [] :=
  ⟨.inl rfl, Ext.refl _, rfl, fun i hi => by simp at hi, fun j hj => by simp at hj, fun i j hi => by simp at hi, fun _ _ e => (by cases e), fun _ _ e => (by cases e)⟩
theorem RI.nil {w0 : World} {σ : Sg} : RI w0 σ σ (.slice .none 0 0) [] [] :=
  ⟨Own.nil _ _, Ext.refl _, fun b hb => by simp [Value.ownBlock] at hb, rfl, fun i hi => by simp at hi, fun j hj => by simp at hj, fun i j hi => by simp at hi, fun b _ hb => (by cases hb)⟩
theorem RI.new {w0 : World} {σ : Sg} {b : Nat} (hf : σ b = .none) (hw : w0.heap.size ≤ b) : RI w0 σ (sg σ b (62, [])) (.slice (some ⟨b, 0, .none⟩) 0 0) [] [] :=
  ⟨Own.new 1 hw, (Ext.refl _).sg hf, ownAt hf, rfl, fun i hi => by simp at hi, fun j hj => by simp at hj, fun i j hi => by simp at hi, fun b _ hb => (by cases hb)⟩
def cntN (h m k : Nat) : Nat := h / m + if k < h % m then 1 else 0
def fromN (h m : Nat) : Nat → Nat
  | 0 => 0
  | k + 1 => fromN h m k + cntN h m k
def rowsN (h m : Nat) : Nat → List (Int × Int)
  | 0 => []
  | k + 1 => rowsN h m k ++ [(((fromN h m k : Nat) : Int), ((cntN h m k : Nat) : Int))]
theorem rowsN_len (h m : Nat) : ∀ k, (rowsN h m k).length = k
  | 0 => rfl
  | k + 1 => by rw [rowsN, List.length_append, rowsN_len h m k]; rfl
theorem cntN_t {h m k : Nat} (hk : k < h % m) : cntN h m k = h / m + 1 := by rw [cntN, if_pos hk]
theorem cntN_f {h m k : Nat} (hk : ¬ k < h % m) : cntN h m k = h / m := by rw [cntN, if_neg hk]; rfl
theorem fromN_le {h m : Nat} (hh : h ≤ 16) : ∀ k, fromN h m k ≤ 17 * k
  | 0 => by simp [fromN]
  | k + 1 => by
    have h1 := fromN_le (m := m) hh k
    have h2 : cntN h m k ≤ 17 := by
      have := Nat.div_le_self h m
      unfold cntN; split <;> omega
    rw [fromN]; omega
def rowsC (gx gy n : Int) : Prop := ((4 ≤ gx ∧ gx ≤ 16) ∧ 4 ≤ gy ∧ gy ≤ 16) ∧ 1 ≤ n ∧ n ≤ 8
instance (gx gy n : Int) : Decidable (rowsC gx gy n) := by unfold rowsC; infer_instance
def rowsF (gx gy n : Int) : List (Int × Int) := if rowsC gx gy n then rowsN gy.toNat n.toNat n.toNat else []
def rowsB (gx gy n : Int) : Bool := decide (rowsC gx gy n)
theorem rowsF_no {gx gy n : Int} (h : ¬ (((4 ≤ gx ∧ gx ≤ 16) ∧ 4 ≤ gy ∧ gy ≤ 16) ∧ 1 ≤ n ∧ n ≤ 8)) : rowsF gx gy n = [] := if_neg h
theorem rowsB_no {gx gy n : Int} (h : ¬ (((4 ≤ gx ∧ gx ≤ 16) ∧ 4 ≤ gy ∧ gy ≤ 16) ∧ 1 ≤ n ∧ n ≤ 8)) : rowsB gx gy n = false := decide_eq_false h
theorem rowsF_yes {w h m : Nat} (hc : ((4 ≤ (w : Int) ∧ (w : Int) ≤ 16) ∧ 4 ≤ (h : Int) ∧ (h : Int) ≤ 16) ∧ 1 ≤ (m : Int) ∧ (m : Int) ≤ 8) : rowsF w h m = rowsN h m m := if_pos hc
theorem rowsB_yes {w h m : Nat} (hc : ((4 ≤ (w : Int) ∧ (w : Int) ≤ 16) ∧ 4 ≤ (h : Int) ∧ (h : Int) ≤ 16) ∧ 1 ≤ (m : Int) ∧ (m : Int) ≤ 8) : rowsB w h m = true := decide_eq_true hc
theorem specRows {w0 : World} {σ : Sg} (gx gy n : Int) :
    Fn Try.prog w0 17 [(.agg #[(.int .i64 gx), (.int .i64 gy)]), (.int .i64 n)] σ (fun u s => ∃ p c bs, u = .tuple #[.slice p (rowsF gx gy n).length c, .bool (rowsB gx gy n)] ∧ LS w0 σ s p bs (rowsF gx gy n)) := by
  refine Fn.of_W 45 Try.func17 rfl Try.ntmps17 rfl ?_
  refine W.seq ?_
  refine W.region ?_
  refine L.cons (o_box (v := (.agg #[(.int .i64 gx), (.int .i64 gy)])) rfl rfl [(.int .i64 gx), (.int .i64 gy)] rfl) ?_
  rintro _ _ ⟨b1, hf2, hw3, rfl, rfl⟩
  have hb6 : (sg σ b1 (27, [(.int .i64 gx), (.int .i64 gy)])) b1 = some (27, [(.int .i64 gx), (.int .i64 gy)]) := sg_eq _ _ _
  have hx5 : Ext σ (sg σ b1 (27, [(.int .i64 gx), (.int .i64 gy)])) := (Ext.refl _).sg hf2
  have ehx5 := Ext.trans (Ext.refl _) hx5
  generalize hgs4 : sg σ b1 (27, [(.int .i64 gx), (.int .i64 gy)]) = s4 at *
  clear hgs4
  refine L.v (o_assign (v := (.slice none 0 0)) rfl) ?_
  refine L.v (o_assign (v := (.bool false)) rfl) ?_
  refine L.nil ?_
  refine W.seq ?_
  refine W.seq ?_
  refine W.region ?_
  refine L.v (v := (.bool (decide ((4 ≤ (gx : Int) ∧ (gx : Int) ≤ 16) ∧ 4 ≤ (gy : Int) ∧ (gy : Int) ≤ 16)))) (op_call [(.pointer (some ⟨b1, 0, none⟩))] Try.call45 rfl (specIs b1 _ gx gy hb6)) ?_
  refine L.v (o_not (b := decide ((4 ≤ (gx : Int) ∧ (gx : Int) ≤ 16) ∧ 4 ≤ (gy : Int) ∧ (gy : Int) ≤ 16)) rfl rfl) ?_
  refine L.v (o_move (v := (.bool (!(decide ((4 ≤ (gx : Int) ∧ (gx : Int) ≤ 16) ∧ 4 ≤ (gy : Int) ∧ (gy : Int) ≤ 16))))) rfl) ?_
  rcases Bool.eq_false_or_eq_true (!(decide ((4 ≤ (gx : Int) ∧ (gx : Int) ≤ 16) ∧ 4 ≤ (gy : Int) ∧ (gy : Int) ≤ 16))) with q7 | q7
  ·
    have a8 : ¬ ((4 ≤ (gx : Int) ∧ (gx : Int) ≤ 16) ∧ 4 ≤ (gy : Int) ∧ (gy : Int) ≤ 16) := of_decide_eq_false (bn_t q7)
    refine L.gF (j := 2) (d₁ := 12) (b := !(decide ((4 ≤ (gx : Int) ∧ (gx : Int) ≤ 16) ∧ 4 ≤ (gy : Int) ∧ (gy : Int) ≤ 16))) rfl rfl rfl q7 ?_
    refine L.gF (j := 2) (d₁ := 12) (b := !(decide ((4 ≤ (gx : Int) ∧ (gx : Int) ≤ 16) ∧ 4 ≤ (gy : Int) ∧ (gy : Int) ≤ 16))) rfl rfl rfl q7 ?_
    refine L.gF (j := 2) (d₁ := 12) (b := !(decide ((4 ≤ (gx : Int) ∧ (gx : Int) ≤ 16) ∧ 4 ≤ (gy : Int) ∧ (gy : Int) ≤ 16))) rfl rfl rfl q7 ?_
    refine L.v (o_pickT (b := !(decide ((4 ≤ (gx : Int) ∧ (gx : Int) ≤ 16) ∧ 4 ≤ (gy : Int) ∧ (gy : Int) ≤ 16))) (v := (.bool true)) rfl q7 rfl) ?_
    refine L.nil ?_
    refine W.condT (b := true) rfl rfl ?_
    refine W.seq ?_
    refine W.region ?_
    refine L.v (o_assign (v := (.slice none 0 0)) rfl) ?_
    refine L.v (o_assign (v := (.bool false)) rfl) ?_
    refine L.nil ?_
    refine W.ret ?_
    exact RetK.two σ (.slice none 0 0) (.bool false) rfl rfl rfl rfl rfl ehx5 ⟨none, 0, [], by rw [rowsF_no (by omega), rowsB_no (by omega)]; rfl, by rw [rowsF_no (by omega)]; exact LS.nil⟩
  ·
    have a9 : (4 ≤ (gx : Int) ∧ (gx : Int) ≤ 16) ∧ 4 ≤ (gy : Int) ∧ (gy : Int) ≤ 16 := of_decide_eq_true (bn_f q7)
    refine L.gv (j := 2) (d₁ := 12) (b := !(decide ((4 ≤ (gx : Int) ∧ (gx : Int) ≤ 16) ∧ 4 ≤ (gy : Int) ∧ (gy : Int) ≤ 16))) rfl rfl rfl q7 (o_move (v := (.int .i64 n)) rfl) ?_
    refine L.gv (j := 2) (d₁ := 12) (b := !(decide ((4 ≤ (gx : Int) ∧ (gx : Int) ≤ 16) ∧ 4 ≤ (gy : Int) ∧ (gy : Int) ≤ 16))) rfl rfl rfl q7 (v := (.bool (decide ((1 : Int) ≤ n ∧ (n : Int) ≤ 8)))) (op_call [(.int .i64 n), (.int .i64 1), (.int .i64 8)] Try.call38 rfl (withinS n 1 8)) ?_
    refine L.gv (j := 2) (d₁ := 12) (b := !(decide ((4 ≤ (gx : Int) ∧ (gx : Int) ≤ 16) ∧ 4 ≤ (gy : Int) ∧ (gy : Int) ≤ 16))) rfl rfl rfl q7 (o_not (b := decide ((1 : Int) ≤ n ∧ (n : Int) ≤ 8)) rfl rfl) ?_
    refine L.v (o_pickF (b := !(decide ((4 ≤ (gx : Int) ∧ (gx : Int) ≤ 16) ∧ 4 ≤ (gy : Int) ∧ (gy : Int) ≤ 16))) (v := (.bool (!(decide ((1 : Int) ≤ n ∧ (n : Int) ≤ 8))))) rfl q7 rfl) ?_
    refine L.nil ?_
    refine W.cond (b := !(decide ((1 : Int) ≤ n ∧ (n : Int) ≤ 8))) rfl (fun q10 => ?_) (fun q10 => ?_)
    ·
      have a11 : ¬ ((1 : Int) ≤ n ∧ (n : Int) ≤ 8) := of_decide_eq_false (bn_t q10)
      refine W.seq ?_
      refine W.region ?_
      refine L.v (o_assign (v := (.slice none 0 0)) rfl) ?_
      refine L.v (o_assign (v := (.bool false)) rfl) ?_
      refine L.nil ?_
      refine W.ret ?_
      exact RetK.two σ (.slice none 0 0) (.bool false) rfl rfl rfl rfl rfl ehx5 ⟨none, 0, [], by rw [rowsF_no (by omega), rowsB_no (by omega)]; rfl, by rw [rowsF_no (by omega)]; exact LS.nil⟩
    ·
      have a12 : (1 : Int) ≤ n ∧ (n : Int) ≤ 8 := of_decide_eq_true (bn_f q10)
      refine W.skip ?_
      refine W.seq ?_
      obtain ⟨w, rfl⟩ : ∃ w : Nat, gx = (w : Int) := ⟨gx.toNat, by omega⟩
      obtain ⟨h, rfl⟩ : ∃ h : Nat, gy = (h : Int) := ⟨gy.toNat, by omega⟩
      obtain ⟨m, rfl⟩ : ∃ m : Nat, n = (m : Int) := ⟨n.toNat, by omega⟩
      refine W.region ?_
      refine L.cons (o_buildSlice (info := Try.t62) (z := .slice none 0 0) [] Try.underlying33 Try.type62 rfl rfl rfl rfl (by decide) rfl rfl (by simp)) ?_
      rintro _ _ ⟨b13, hf14, hw15, rfl, rfl⟩
      refine L.v (o_assign (v := (.slice (some ⟨b13, 0, none⟩) 0 0)) rfl) ?_
      refine L.nil ?_
      refine W.seq ?_
      refine W.region ?_
      refine L.v (o_assign (v := (.int .i64 0)) rfl) ?_
      refine L.nil ?_
      refine W.seq ?_
      refine W.seq ?_
      refine W.region ?_
      refine L.v (o_assign (v := (.int .i64 0)) rfl) ?_
      refine L.nil ?_
      refine W.block ?_
      refine W.loop (fun nn tt ss => ∃ (k : Nat) (v : Value) (bs : List Nat), nn = m - k ∧ k ≤ m ∧ RI w0 s4 ss v bs (rowsN h m k) ∧ FrOk tt [(1, (.int .i64 (m : Int))), (2, (.pointer (some ⟨b1, 0, none⟩))), (6, v), (7, (.int .i64 (fromN h m k : Nat))), (8, (.int .i64 (k : Int)))]) _ ⟨0, (.slice (some ⟨b13, 0, none⟩) 0 0), [], rfl, by omega, RI.new hf14 hw15, ⟨rfl, rfl, rfl, rfl, rfl, trivial⟩⟩ ?_
      rintro _ t1 s1 ⟨k, v, bs, rfl, hk, hri, f1⟩
      rw [← frame_ok f1]
      show W _ _ _ _ _ (upd (upd (upd (upd (upd t1 1 (.int .i64 (m : Int))) 2 (.pointer (some ⟨b1, 0, none⟩))) 6 v) 7 (.int .i64 (fromN h m k : Nat))) 8 (.int .i64 (k : Int))) _
      have hfl := fromN_le (m := m) (show h ≤ 16 by omega) k
      have hdv := Nat.div_le_self h m
      have hd0 : (0 : Int) ≤ ((h / m : Nat) : Int) := Int.natCast_nonneg _
      have hln := hri.len.trans (rowsN_len h m k)
      refine W.seq ?_
      refine W.seq ?_
      refine W.region ?_
      refine L.v (o_move (v := (.int .i64 (k : Int))) rfl) ?_
      refine L.v (o_move (v := (.int .i64 (m : Int))) rfl) ?_
      refine L.v (o_ilss (a := (k : Int)) (b := (m : Int)) rfl rfl rfl) ?_
      refine L.nil ?_
      refine W.cond (b := decide (((k : Int) : Int) < (m : Int))) rfl (fun q16 => ?_) (fun q16 => ?_)
      ·
        have a17 : ((k : Int) : Int) < (m : Int) := of_decide_eq_true q16
        refine W.skip ?_
        refine W.seq ?_
        refine W.block ?_
        refine W.seq ?_
        refine W.region ?_
        refine L.v (o_fieldAddr (b := b1) (off := 0) (o := 1) (run_fieldAt (f := 1) (fld := { name := "High", type := 2, offset := 1, embedded := false, tag := "", pkgPath := "", byteOffset := 8 }) Try.underlying27 rfl Try.sizeOf2 (Nat.succ_ne_zero _)) rfl) ?_
        refine L.v (o_load (b := b1) (off := 0 + 1) (v := (.int .i64 (h : Int))) Try.isAgg2 rfl (Rd.of (hri.ext _ _ hb6) rfl) rfl) ?_
        refine L.v (o_move (v := (.int .i64 (m : Int))) rfl) ?_
        refine L.v (o_iquo (a := (h : Int)) (b := (m : Int)) (c := ((h / m : Nat) : Int)) rfl rfl (by omega) (by rw [← Int.ofNat_tdiv, IntWalk.i64_in _ (by omega)])) ?_
        refine L.v (o_assign (v := (.int .i64 (((h / m : Nat) : Int)))) rfl) ?_
        refine L.nil ?_
        refine W.seq ?_
        refine W.seq ?_
        refine W.region ?_
        refine L.v (o_move (v := (.int .i64 (k : Int))) rfl) ?_
        refine L.v (o_fieldAddr (b := b1) (off := 0) (o := 1) (run_fieldAt (f := 1) (fld := { name := "High", type := 2, offset := 1, embedded := false, tag := "", pkgPath := "", byteOffset := 8 }) Try.underlying27 rfl Try.sizeOf2 (Nat.succ_ne_zero _)) rfl) ?_
        refine L.v (o_load (b := b1) (off := 0 + 1) (v := (.int .i64 (h : Int))) Try.isAgg2 rfl (Rd.of (hri.ext _ _ hb6) rfl) rfl) ?_
        refine L.v (o_move (v := (.int .i64 (m : Int))) rfl) ?_
        refine L.v (o_irem (a := (h : Int)) (b := (m : Int)) (c := ((h % m : Nat) : Int)) rfl rfl (by omega) (by rw [← Int.ofNat_tmod])) ?_
        refine L.v (o_ilss (a := (k : Int)) (b := ((h % m : Nat) : Int)) rfl rfl rfl) ?_
        refine L.nil ?_
        refine W.cond (b := decide (((k : Int) : Int) < (((h % m : Nat) : Int)))) rfl (fun q18 => ?_) (fun q18 => ?_)
        ·
          have a19 : ((k : Int) : Int) < (((h % m : Nat) : Int)) := of_decide_eq_true q18
          refine W.region ?_
          refine L.v (o_move (v := (.int .i64 (((h / m : Nat) : Int)))) rfl) ?_
          refine L.v (o_iadd (a := ((h / m : Nat) : Int)) (b := 1) (c := ((h / m + 1 : Nat) : Int)) rfl rfl (by rw [IntWalk.i64_in _ (by omega)]; try omega)) ?_
          refine L.v (o_assign (v := (.int .i64 (((h / m + 1 : Nat) : Int)))) rfl) ?_
          refine L.nil ?_
          refine W.seq ?_
          refine W.region ?_
          refine L.v (o_move (v := v) rfl) ?_
          refine L.v (o_move (v := (.int .i64 (((fromN h m k : Nat) : Int)))) rfl) ?_
          refine L.v (o_move (v := (.int .i64 (((h / m + 1 : Nat) : Int)))) rfl) ?_
          refine L.cons (o_buildSlice (info := Try.t2) (z := .int .i64 0) [(.int .i64 (((fromN h m k : Nat) : Int))), (.int .i64 (((h / m + 1 : Nat) : Int)))] Try.underlying62 Try.type2 rfl rfl rfl rfl (by decide) rfl rfl (by simp [Value.oneCell'])) ?_
          rintro _ _ ⟨b2, f2, w2, rfl, rfl⟩
          refine L.cons (o_buildSlice (info := Try.t62) (z := .slice none 0 0) [sl1 b2] Try.underlying33 Try.type62 rfl rfl rfl rfl (by decide) rfl rfl (by simp [Value.oneCell', sl1])) ?_
          rintro _ _ ⟨b3, f3, w3, rfl, rfl⟩
          have ho2 := Own.ext (Own.ext hri.own ((Ext.refl _).sg (x := (2, [(.int .i64 (((fromN h m k : Nat) : Int))), (.int .i64 (((h / m + 1 : Nat) : Int)))])) f2)) ((Ext.refl _).sg (x := (62, [sl1 b2])) f3)
          refine L.cons (o_append (info := Try.t62) (z := .slice none 0 0) (size := 1) (bytes := 24) (v := v) (n := bs.length) (m := 1) (c := 1) (b := b3) (off := 0) (xs := bs.map sl1) (news := [sl1 b2]) Try.underlying33 Try.type62 rfl rfl rfl rfl rfl ho2 rfl (by decide) rfl (Rds.of (sg_eq _ _ _) (by intro j v hj; simpa using hj)) (by simp [Value.oneCell', sl1]) (by unfold maxLen; omega) (by omega)) ?_
          rintro v2 s2 ⟨ho3, hg3⟩
          have hri2 := RI.step hri w2 f2 f3 ho3 hg3
          refine L.v (o_assign (v := v2) rfl) ?_
          refine L.nil ?_
          refine W.region ?_
          refine L.v (o_move (v := (.int .i64 (((fromN h m k : Nat) : Int)))) rfl) ?_
          refine L.v (o_move (v := (.int .i64 (((h / m + 1 : Nat) : Int)))) rfl) ?_
          refine L.v (o_iadd (a := ((fromN h m k : Nat) : Int)) (b := ((h / m + 1 : Nat) : Int)) (c := ((fromN h m (k + 1) : Nat) : Int)) rfl rfl (by rw [IntWalk.i64_in _ (by omega), fromN, cntN_t (by omega)]; omega)) ?_
          refine L.v (o_assign (v := (.int .i64 (((fromN h m (k + 1) : Nat) : Int)))) rfl) ?_
          refine L.nil ?_
          refine W.region ?_
          refine L.v (o_move (v := (.int .i64 (k : Int))) rfl) ?_
          refine L.v (o_iadd (a := (k : Int)) (b := 1) (c := ((k + 1 : Nat) : Int)) rfl rfl (by rw [IntWalk.i64_in _ (by omega)]; try omega)) ?_
          refine L.v (o_assign (v := (.int .i64 (((k + 1 : Nat) : Int)))) rfl) ?_
          refine L.nil ?_
          exact ⟨_, (by omega), k + 1, v2, bs ++ [b2], rfl, by omega, by rw [rowsN, cntN_t (by omega)]; exact hri2, ⟨rfl, rfl, rfl, rfl, rfl, trivial⟩⟩
        ·
          have a20 : ¬ (((k : Int) : Int) < (((h % m : Nat) : Int))) := of_decide_eq_false q18
          refine W.skip ?_
          refine W.seq ?_
          refine W.region ?_
          refine L.v (o_move (v := v) rfl) ?_
          refine L.v (o_move (v := (.int .i64 (((fromN h m k : Nat) : Int)))) rfl) ?_
          refine L.v (o_move (v := (.int .i64 (((h / m : Nat) : Int)))) rfl) ?_
          refine L.cons (o_buildSlice (info := Try.t2) (z := .int .i64 0) [(.int .i64 (((fromN h m k : Nat) : Int))), (.int .i64 (((h / m : Nat) : Int)))] Try.underlying62 Try.type2 rfl rfl rfl rfl (by decide) rfl rfl (by simp [Value.oneCell'])) ?_
          rintro _ _ ⟨b2, f2, w2, rfl, rfl⟩
          refine L.cons (o_buildSlice (info := Try.t62) (z := .slice none 0 0) [sl1 b2] Try.underlying33 Try.type62 rfl rfl rfl rfl (by decide) rfl rfl (by simp [Value.oneCell', sl1])) ?_
          rintro _ _ ⟨b3, f3, w3, rfl, rfl⟩
          have ho2 := Own.ext (Own.ext hri.own ((Ext.refl _).sg (x := (2, [(.int .i64 (((fromN h m k : Nat) : Int))), (.int .i64 (((h / m : Nat) : Int)))])) f2)) ((Ext.refl _).sg (x := (62, [sl1 b2])) f3)
          refine L.cons (o_append (info := Try.t62) (z := .slice none 0 0) (size := 1) (bytes := 24) (v := v) (n := bs.length) (m := 1) (c := 1) (b := b3) (off := 0) (xs := bs.map sl1) (news := [sl1 b2]) Try.underlying33 Try.type62 rfl rfl rfl rfl rfl ho2 rfl (by decide) rfl (Rds.of (sg_eq _ _ _) (by intro j v hj; simpa using hj)) (by simp [Value.oneCell', sl1]) (by unfold maxLen; omega) (by omega)) ?_
          rintro v2 s2 ⟨ho3, hg3⟩
          have hri2 := RI.step hri w2 f2 f3 ho3 hg3
          refine L.v (o_assign (v := v2) rfl) ?_
          refine L.nil ?_
          refine W.region ?_
          refine L.v (o_move (v := (.int .i64 (((fromN h m k : Nat) : Int)))) rfl) ?_
          refine L.v (o_move (v := (.int .i64 (((h / m : Nat) : Int)))) rfl) ?_
          refine L.v (o_iadd (a := ((fromN h m k : Nat) : Int)) (b := ((h / m : Nat) : Int)) (c := ((fromN h m (k + 1) : Nat) : Int)) rfl rfl (by rw [IntWalk.i64_in _ (by omega), fromN, cntN_f (by omega)]; omega)) ?_
          refine L.v (o_assign (v := (.int .i64 (((fromN h m (k + 1) : Nat) : Int)))) rfl) ?_
          refine L.nil ?_
          refine W.region ?_
          refine L.v (o_move (v := (.int .i64 (k : Int))) rfl) ?_
          refine L.v (o_iadd (a := (k : Int)) (b := 1) (c := ((k + 1 : Nat) : Int)) rfl rfl (by rw [IntWalk.i64_in _ (by omega)]; try omega)) ?_
          refine L.v (o_assign (v := (.int .i64 (((k + 1 : Nat) : Int)))) rfl) ?_
          refine L.nil ?_
          exact ⟨_, (by omega), k + 1, v2, bs ++ [b2], rfl, by omega, by rw [rowsN, cntN_f (by omega)]; exact hri2, ⟨rfl, rfl, rfl, rfl, rfl, trivial⟩⟩
      ·
        have a21 : ¬ (((k : Int) : Int) < (m : Int)) := of_decide_eq_false q16
        refine W.exit ?_
        refine W.seq ?_
        refine W.region ?_
        refine L.v (o_move (v := v) rfl) ?_
        refine L.v (o_assign (v := v) rfl) ?_
        refine L.v (o_assign (v := (.bool true)) rfl) ?_
        refine L.nil ?_
        refine W.ret ?_
        obtain rfl : m = k := by omega
        obtain ⟨p', c', hv, hl⟩ := LS.of_RI hri
        exact RetK.two s1 v (.bool true) rfl rfl rfl (by rw [hv]; rfl) rfl (Ext.refl _) ⟨p', c', bs, by rw [rowsF_yes (by omega), rowsB_yes (by omega), hv], by rw [rowsF_yes (by omega)]; exact LS.weaken hl ehx5⟩

theorem implRows {w0 : World} {σ : Sg} (gx gy n : Int) :
    Fn Try.prog w0 18 [(.agg #[(.int .i64 gx), (.int .i64 gy)]), (.int .i64 n)] σ (fun u s => ∃ p c bs, u = .tuple #[.slice p (rowsF gx gy n).length c, .bool (rowsB gx gy n)] ∧ LS w0 σ s p bs (rowsF gx gy n)) := by
  refine Fn.of_W 45 Try.func18 rfl Try.ntmps18 rfl ?_
  refine W.seq ?_
  refine W.region ?_
  refine L.cons (o_box (v := (.agg #[(.int .i64 gx), (.int .i64 gy)])) rfl rfl [(.int .i64 gx), (.int .i64 gy)] rfl) ?_
  rintro _ _ ⟨b1, hf2, hw3, rfl, rfl⟩
  have hb6 : (sg σ b1 (27, [(.int .i64 gx), (.int .i64 gy)])) b1 = some (27, [(.int .i64 gx), (.int .i64 gy)]) := sg_eq _ _ _
  have hx5 : Ext σ (sg σ b1 (27, [(.int .i64 gx), (.int .i64 gy)])) := (Ext.refl _).sg hf2
  have ehx5 := Ext.trans (Ext.refl _) hx5
  generalize hgs4 : sg σ b1 (27, [(.int .i64 gx), (.int .i64 gy)]) = s4 at *
  clear hgs4
  refine L.v (o_assign (v := (.slice none 0 0)) rfl) ?_
  refine L.v (o_assign (v := (.bool false)) rfl) ?_
  refine L.nil ?_
  refine W.seq ?_
  refine W.seq ?_
  refine W.region ?_
  refine L.v (o_loads (b := b1) (off := 0) (vs := [(.int .i64 gx), (.int .i64 gy)]) Try.isAgg27 Try.sizeOf27 rfl rfl (Rds.of hb6 (by intro j v hj; simpa using hj))) ?_
  refine L.v (v := (.bool (decide ((4 ≤ (gx : Int) ∧ (gx : Int) ≤ 16) ∧ 4 ≤ (gy : Int) ∧ (gy : Int) ≤ 16)))) (op_call [(.agg #[(.int .i64 gx), (.int .i64 gy)])] Try.call46 rfl (implIs gx gy)) ?_
  refine L.v (o_not (b := decide ((4 ≤ (gx : Int) ∧ (gx : Int) ≤ 16) ∧ 4 ≤ (gy : Int) ∧ (gy : Int) ≤ 16)) rfl rfl) ?_
  refine L.v (o_move (v := (.bool (!(decide ((4 ≤ (gx : Int) ∧ (gx : Int) ≤ 16) ∧ 4 ≤ (gy : Int) ∧ (gy : Int) ≤ 16))))) rfl) ?_
  rcases Bool.eq_false_or_eq_true (!(decide ((4 ≤ (gx : Int) ∧ (gx : Int) ≤ 16) ∧ 4 ≤ (gy : Int) ∧ (gy : Int) ≤ 16))) with q7 | q7
  ·
    have a8 : ¬ ((4 ≤ (gx : Int) ∧ (gx : Int) ≤ 16) ∧ 4 ≤ (gy : Int) ∧ (gy : Int) ≤ 16) := of_decide_eq_false (bn_t q7)
    refine L.gF (j := 3) (d₁ := 13) (b := !(decide ((4 ≤ (gx : Int) ∧ (gx : Int) ≤ 16) ∧ 4 ≤ (gy : Int) ∧ (gy : Int) ≤ 16))) rfl rfl rfl q7 ?_
    refine L.gF (j := 3) (d₁ := 13) (b := !(decide ((4 ≤ (gx : Int) ∧ (gx : Int) ≤ 16) ∧ 4 ≤ (gy : Int) ∧ (gy : Int) ≤ 16))) rfl rfl rfl q7 ?_
    refine L.gF (j := 3) (d₁ := 13) (b := !(decide ((4 ≤ (gx : Int) ∧ (gx : Int) ≤ 16) ∧ 4 ≤ (gy : Int) ∧ (gy : Int) ≤ 16))) rfl rfl rfl q7 ?_
    refine L.v (o_pickT (b := !(decide ((4 ≤ (gx : Int) ∧ (gx : Int) ≤ 16) ∧ 4 ≤ (gy : Int) ∧ (gy : Int) ≤ 16))) (v := (.bool true)) rfl q7 rfl) ?_
    refine L.nil ?_
    refine W.condT (b := true) rfl rfl ?_
    refine W.seq ?_
    refine W.region ?_
    refine L.v (o_assign (v := (.slice none 0 0)) rfl) ?_
    refine L.v (o_assign (v := (.bool false)) rfl) ?_
    refine L.nil ?_
    refine W.ret ?_
    exact RetK.two σ (.slice none 0 0) (.bool false) rfl rfl rfl rfl rfl ehx5 ⟨none, 0, [], by rw [rowsF_no (by omega), rowsB_no (by omega)]; rfl, by rw [rowsF_no (by omega)]; exact LS.nil⟩
  ·
    have a9 : (4 ≤ (gx : Int) ∧ (gx : Int) ≤ 16) ∧ 4 ≤ (gy : Int) ∧ (gy : Int) ≤ 16 := of_decide_eq_true (bn_f q7)
    refine L.gv (j := 3) (d₁ := 13) (b := !(decide ((4 ≤ (gx : Int) ∧ (gx : Int) ≤ 16) ∧ 4 ≤ (gy : Int) ∧ (gy : Int) ≤ 16))) rfl rfl rfl q7 (o_move (v := (.int .i64 n)) rfl) ?_
    refine L.gv (j := 3) (d₁ := 13) (b := !(decide ((4 ≤ (gx : Int) ∧ (gx : Int) ≤ 16) ∧ 4 ≤ (gy : Int) ∧ (gy : Int) ≤ 16))) rfl rfl rfl q7 (v := (.bool (decide ((1 : Int) ≤ n ∧ (n : Int) ≤ 8)))) (op_call [(.int .i64 n), (.int .i64 1), (.int .i64 8)] Try.call41 rfl (withinI n 1 8)) ?_
    refine L.gv (j := 3) (d₁ := 13) (b := !(decide ((4 ≤ (gx : Int) ∧ (gx : Int) ≤ 16) ∧ 4 ≤ (gy : Int) ∧ (gy : Int) ≤ 16))) rfl rfl rfl q7 (o_not (b := decide ((1 : Int) ≤ n ∧ (n : Int) ≤ 8)) rfl rfl) ?_
    refine L.v (o_pickF (b := !(decide ((4 ≤ (gx : Int) ∧ (gx : Int) ≤ 16) ∧ 4 ≤ (gy : Int) ∧ (gy : Int) ≤ 16))) (v := (.bool (!(decide ((1 : Int) ≤ n ∧ (n : Int) ≤ 8))))) rfl q7 rfl) ?_
    refine L.nil ?_
    refine W.cond (b := !(decide ((1 : Int) ≤ n ∧ (n : Int) ≤ 8))) rfl (fun q10 => ?_) (fun q10 => ?_)
    ·
      have a11 : ¬ ((1 : Int) ≤ n ∧ (n : Int) ≤ 8) := of_decide_eq_false (bn_t q10)
      refine W.seq ?_
      refine W.region ?_
      refine L.v (o_assign (v := (.slice none 0 0)) rfl) ?_
      refine L.v (o_assign (v := (.bool false)) rfl) ?_
      refine L.nil ?_
      refine W.ret ?_
      exact RetK.two σ (.slice none 0 0) (.bool false) rfl rfl rfl rfl rfl ehx5 ⟨none, 0, [], by rw [rowsF_no (by omega), rowsB_no (by omega)]; rfl, by rw [rowsF_no (by omega)]; exact LS.nil⟩
    ·
      have a12 : (1 : Int) ≤ n ∧ (n : Int) ≤ 8 := of_decide_eq_true (bn_f q10)
      refine W.skip ?_
      refine W.seq ?_
      obtain ⟨w, rfl⟩ : ∃ w : Nat, gx = (w : Int) := ⟨gx.toNat, by omega⟩
      obtain ⟨h, rfl⟩ : ∃ h : Nat, gy = (h : Int) := ⟨gy.toNat, by omega⟩
      obtain ⟨m, rfl⟩ : ∃ m : Nat, n = (m : Int) := ⟨n.toNat, by omega⟩
      refine W.region ?_
      refine L.v (o_assign (v := (.slice none 0 0)) rfl) ?_
      refine L.nil ?_
      refine W.seq ?_
      refine W.region ?_
      refine L.v (o_assign (v := (.int .i64 0)) rfl) ?_
      refine L.nil ?_
      refine W.seq ?_
      refine W.seq ?_
      refine W.region ?_
      refine L.v (o_move (v := (.int .i64 (m : Int))) rfl) ?_
      refine L.v (o_move (v := (.int .i64 0)) rfl) ?_
      refine L.nil ?_
      refine W.block ?_
      refine W.loop (fun nn tt ss => ∃ (k : Nat) (v : Value) (bs : List Nat), nn = m - k ∧ k ≤ m ∧ RI w0 s4 ss v bs (rowsN h m k) ∧ FrOk tt [(1, (.int .i64 (m : Int))), (2, (.pointer (some ⟨b1, 0, none⟩))), (6, v), (7, (.int .i64 (fromN h m k : Nat))), (18, (.int .i64 (m : Int))), (19, (.int .i64 (k : Int)))]) _ ⟨0, (.slice none 0 0), [], rfl, by omega, RI.nil, ⟨rfl, rfl, rfl, rfl, rfl, rfl, trivial⟩⟩ ?_
      rintro _ t1 s1 ⟨k, v, bs, rfl, hk, hri, f1⟩
      rw [← frame_ok f1]
      show W _ _ _ _ _ (upd (upd (upd (upd (upd (upd t1 1 (.int .i64 (m : Int))) 2 (.pointer (some ⟨b1, 0, none⟩))) 6 v) 7 (.int .i64 (fromN h m k : Nat))) 18 (.int .i64 (m : Int))) 19 (.int .i64 (k : Int))) _
      have hfl := fromN_le (m := m) (show h ≤ 16 by omega) k
      have hdv := Nat.div_le_self h m
      have hd0 : (0 : Int) ≤ ((h / m : Nat) : Int) := Int.natCast_nonneg _
      have hln := hri.len.trans (rowsN_len h m k)
      refine W.seq ?_
      refine W.region ?_
      refine L.v (o_ilss (a := (k : Int)) (b := (m : Int)) rfl rfl rfl) ?_
      refine L.nil ?_
      refine W.seq ?_
      refine W.cond (b := decide (((k : Int) : Int) < (m : Int))) rfl (fun q13 => ?_) (fun q13 => ?_)
      ·
        have a14 : ((k : Int) : Int) < (m : Int) := of_decide_eq_true q13
        refine W.skip ?_
        refine W.seq ?_
        refine W.block ?_
        refine W.seq ?_
        refine W.region ?_
        refine L.v (o_move (v := (.int .i64 (k : Int))) rfl) ?_
        refine L.v (o_assign (v := (.int .i64 (k : Int))) rfl) ?_
        refine L.nil ?_
        refine W.seq ?_
        refine W.region ?_
        refine L.v (o_fieldAddr (b := b1) (off := 0) (o := 1) (run_fieldAt (f := 1) (fld := { name := "High", type := 2, offset := 1, embedded := false, tag := "", pkgPath := "", byteOffset := 8 }) Try.underlying27 rfl Try.sizeOf2 (Nat.succ_ne_zero _)) rfl) ?_
        refine L.v (o_load (b := b1) (off := 0 + 1) (v := (.int .i64 (h : Int))) Try.isAgg2 rfl (Rd.of (hri.ext _ _ hb6) rfl) rfl) ?_
        refine L.v (o_move (v := (.int .i64 (m : Int))) rfl) ?_
        refine L.v (o_iquo (a := (h : Int)) (b := (m : Int)) (c := ((h / m : Nat) : Int)) rfl rfl (by omega) (by rw [← Int.ofNat_tdiv, IntWalk.i64_in _ (by omega)])) ?_
        refine L.v (o_assign (v := (.int .i64 (((h / m : Nat) : Int)))) rfl) ?_
        refine L.nil ?_
        refine W.seq ?_
        refine W.seq ?_
        refine W.region ?_
        refine L.v (o_move (v := (.int .i64 (k : Int))) rfl) ?_
        refine L.v (o_fieldAddr (b := b1) (off := 0) (o := 1) (run_fieldAt (f := 1) (fld := { name := "High", type := 2, offset := 1, embedded := false, tag := "", pkgPath := "", byteOffset := 8 }) Try.underlying27 rfl Try.sizeOf2 (Nat.succ_ne_zero _)) rfl) ?_
        refine L.v (o_load (b := b1) (off := 0 + 1) (v := (.int .i64 (h : Int))) Try.isAgg2 rfl (Rd.of (hri.ext _ _ hb6) rfl) rfl) ?_
        refine L.v (o_move (v := (.int .i64 (m : Int))) rfl) ?_
        refine L.v (o_irem (a := (h : Int)) (b := (m : Int)) (c := ((h % m : Nat) : Int)) rfl rfl (by omega) (by rw [← Int.ofNat_tmod])) ?_
        refine L.v (o_ilss (a := (k : Int)) (b := ((h % m : Nat) : Int)) rfl rfl rfl) ?_
        refine L.nil ?_
        refine W.cond (b := decide (((k : Int) : Int) < (((h % m : Nat) : Int)))) rfl (fun q15 => ?_) (fun q15 => ?_)
        ·
          have a16 : ((k : Int) : Int) < (((h % m : Nat) : Int)) := of_decide_eq_true q15
          refine W.region ?_
          refine L.v (o_move (v := (.int .i64 (((h / m : Nat) : Int)))) rfl) ?_
          refine L.v (o_iadd (a := ((h / m : Nat) : Int)) (b := 1) (c := ((h / m + 1 : Nat) : Int)) rfl rfl (by rw [IntWalk.i64_in _ (by omega)]; try omega)) ?_
          refine L.v (o_assign (v := (.int .i64 (((h / m + 1 : Nat) : Int)))) rfl) ?_
          refine L.nil ?_
          refine W.seq ?_
          refine W.region ?_
          refine L.v (o_move (v := v) rfl) ?_
          refine L.v (o_move (v := (.int .i64 (((fromN h m k : Nat) : Int)))) rfl) ?_
          refine L.v (o_move (v := (.int .i64 (((h / m + 1 : Nat) : Int)))) rfl) ?_
          refine L.cons (o_buildSlice (info := Try.t2) (z := .int .i64 0) [(.int .i64 (((fromN h m k : Nat) : Int))), (.int .i64 (((h / m + 1 : Nat) : Int)))] Try.underlying62 Try.type2 rfl rfl rfl rfl (by decide) rfl rfl (by simp [Value.oneCell'])) ?_
          rintro _ _ ⟨b2, f2, w2, rfl, rfl⟩
          refine L.cons (o_buildSlice (info := Try.t62) (z := .slice none 0 0) [sl1 b2] Try.underlying33 Try.type62 rfl rfl rfl rfl (by decide) rfl rfl (by simp [Value.oneCell', sl1])) ?_
          rintro _ _ ⟨b3, f3, w3, rfl, rfl⟩
          have ho2 := Own.ext (Own.ext hri.own ((Ext.refl _).sg (x := (2, [(.int .i64 (((fromN h m k : Nat) : Int))), (.int .i64 (((h / m + 1 : Nat) : Int)))])) f2)) ((Ext.refl _).sg (x := (62, [sl1 b2])) f3)
          refine L.cons (o_append (info := Try.t62) (z := .slice none 0 0) (size := 1) (bytes := 24) (v := v) (n := bs.length) (m := 1) (c := 1) (b := b3) (off := 0) (xs := bs.map sl1) (news := [sl1 b2]) Try.underlying33 Try.type62 rfl rfl rfl rfl rfl ho2 rfl (by decide) rfl (Rds.of (sg_eq _ _ _) (by intro j v hj; simpa using hj)) (by simp [Value.oneCell', sl1]) (by unfold maxLen; omega) (by omega)) ?_
          rintro v2 s2 ⟨ho3, hg3⟩
          have hri2 := RI.step hri w2 f2 f3 ho3 hg3
          refine L.v (o_assign (v := v2) rfl) ?_
          refine L.nil ?_
          refine W.region ?_
          refine L.v (o_move (v := (.int .i64 (((fromN h m k : Nat) : Int)))) rfl) ?_
          refine L.v (o_move (v := (.int .i64 (((h / m + 1 : Nat) : Int)))) rfl) ?_
          refine L.v (o_iadd (a := ((fromN h m k : Nat) : Int)) (b := ((h / m + 1 : Nat) : Int)) (c := ((fromN h m (k + 1) : Nat) : Int)) rfl rfl (by rw [IntWalk.i64_in _ (by omega), fromN, cntN_t (by omega)]; omega)) ?_
          refine L.v (o_assign (v := (.int .i64 (((fromN h m (k + 1) : Nat) : Int)))) rfl) ?_
          refine L.nil ?_
          refine W.region ?_
          refine L.v (o_iadd (a := (k : Int)) (b := 1) (c := ((k + 1 : Nat) : Int)) rfl rfl (by rw [IntWalk.i64_in _ (by omega)]; try omega)) ?_
          refine L.v (o_move (v := (.int .i64 (((k + 1 : Nat) : Int)))) rfl) ?_
          refine L.nil ?_
          exact ⟨_, (by omega), k + 1, v2, bs ++ [b2], rfl, by omega, by rw [rowsN, cntN_t (by omega)]; exact hri2, ⟨rfl, rfl, rfl, rfl, rfl, rfl, trivial⟩⟩
        ·
          have a17 : ¬ (((k : Int) : Int) < (((h % m : Nat) : Int))) := of_decide_eq_false q15
          refine W.skip ?_
          refine W.seq ?_
          refine W.region ?_
          refine L.v (o_move (v := v) rfl) ?_
          refine L.v (o_move (v := (.int .i64 (((fromN h m k : Nat) : Int)))) rfl) ?_
          refine L.v (o_move (v := (.int .i64 (((h / m : Nat) : Int)))) rfl) ?_
          refine L.cons (o_buildSlice (info := Try.t2) (z := .int .i64 0) [(.int .i64 (((fromN h m k : Nat) : Int))), (.int .i64 (((h / m : Nat) : Int)))] Try.underlying62 Try.type2 rfl rfl rfl rfl (by decide) rfl rfl (by simp [Value.oneCell'])) ?_
          rintro _ _ ⟨b2, f2, w2, rfl, rfl⟩
          refine L.cons (o_buildSlice (info := Try.t62) (z := .slice none 0 0) [sl1 b2] Try.underlying33 Try.type62 rfl rfl rfl rfl (by decide) rfl rfl (by simp [Value.oneCell', sl1])) ?_
          rintro _ _ ⟨b3, f3, w3, rfl, rfl⟩
          have ho2 := Own.ext (Own.ext hri.own ((Ext.refl _).sg (x := (2, [(.int .i64 (((fromN h m k : Nat) : Int))), (.int .i64 (((h / m : Nat) : Int)))])) f2)) ((Ext.refl _).sg (x := (62, [sl1 b2])) f3)
          refine L.cons (o_append (info := Try.t62) (z := .slice none 0 0) (size := 1) (bytes := 24) (v := v) (n := bs.length) (m := 1) (c := 1) (b := b3) (off := 0) (xs := bs.map sl1) (news := [sl1 b2]) Try.underlying33 Try.type62 rfl rfl rfl rfl rfl ho2 rfl (by decide) rfl (Rds.of (sg_eq _ _ _) (by intro j v hj; simpa using hj)) (by simp [Value.oneCell', sl1]) (by unfold maxLen; omega) (by omega)) ?_
          rintro v2 s2 ⟨ho3, hg3⟩
          have hri2 := RI.step hri w2 f2 f3 ho3 hg3
          refine L.v (o_assign (v := v2) rfl) ?_
          refine L.nil ?_
          refine W.region ?_
          refine L.v (o_move (v := (.int .i64 (((fromN h m k : Nat) : Int)))) rfl) ?_
          refine L.v (o_move (v := (.int .i64 (((h / m : Nat) : Int)))) rfl) ?_
          refine L.v (o_iadd (a := ((fromN h m k : Nat) : Int)) (b := ((h / m : Nat) : Int)) (c := ((fromN h m (k + 1) : Nat) : Int)) rfl rfl (by rw [IntWalk.i64_in _ (by omega), fromN, cntN_f (by omega)]; omega)) ?_
          refine L.v (o_assign (v := (.int .i64 (((fromN h m (k + 1) : Nat) : Int)))) rfl) ?_
          refine L.nil ?_
          refine W.region ?_
          refine L.v (o_iadd (a := (k : Int)) (b := 1) (c := ((k + 1 : Nat) : Int)) rfl rfl (by rw [IntWalk.i64_in _ (by omega)]; try omega)) ?_
          refine L.v (o_move (v := (.int .i64 (((k + 1 : Nat) : Int)))) rfl) ?_
          refine L.nil ?_
          exact ⟨_, (by omega), k + 1, v2, bs ++ [b2], rfl, by omega, by rw [rowsN, cntN_f (by omega)]; exact hri2, ⟨rfl, rfl, rfl, rfl, rfl, rfl, trivial⟩⟩
      ·
        have a18 : ¬ (((k : Int) : Int) < (m : Int)) := of_decide_eq_false q13
        refine W.exit ?_
        refine W.seq ?_
        refine W.region ?_
        refine L.v (o_move (v := v) rfl) ?_
        refine L.v (o_assign (v := v) rfl) ?_
        refine L.v (o_assign (v := (.bool true)) rfl) ?_
        refine L.nil ?_
        refine W.ret ?_
        obtain rfl : m = k := by omega
        obtain ⟨p', c', hv, hl⟩ := LS.of_RI hri
        exact RetK.two s1 v (.bool true) rfl rfl rfl (by rw [hv]; rfl) rfl (Ext.refl _) ⟨p', c', bs, by rw [rowsF_yes (by omega), rowsB_yes (by omega), hv], by rw [rowsF_yes (by omega)]; exact LS.weaken hl ehx5⟩

end Go.Proofs.Ytpgmpjejfpmnoaa.En
