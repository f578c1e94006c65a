/- A line cloned and turned round in place. -/
import Derived.Test.YtpgmpjejfpmnoaaEngY
import Derived.Test.YtpgmpjejfpmnoaaLine
import Derived.Test.YtpgmpjejfpmnoaaRows
namespace Go.Proofs.Ytpgmpjejfpmnoaa.En
open Go
set_option linter.unusedVariables false
theorem FillR.set {rows : List (List Value)} {k i : Nat} {cs : List Value} {r : List Value} (h : FillR rows k cs rows.length) (hi : i < rows.length) (hk : ∀ r ∈ rows, r.length = k) (hr : r.length = k) : FillR (rows.set i r) k (wr cs (i * k) r) (rows.set i r).length := by
  have hm : (i + 1) * k ≤ rows.length * k := Nat.mul_le_mul_right _ hi
  rw [Nat.succ_mul] at hm
  have h1 := h.1
  refine ⟨by rw [wr_length, List.length_set]; exact h.1, fun j hj s hs l v hv => ?_⟩
  rw [List.length_set] at hj
  by_cases hji : j = i
  · subst hji
    rw [List.getElem?_set_self hi] at hs
    cases hs
    exact wr_in _ _ _ _ _ hv (by omega)
  · rw [List.getElem?_set_ne (by omega)] at hs
    have hl : l < k := by
      have := (List.getElem?_eq_some_iff.1 hv).1
      rwa [hk s (List.mem_of_getElem? hs)] at this
    rcases Nat.lt_or_gt_of_ne hji with hlt | hgt
    · have hj2 : (j + 1) * k ≤ i * k := Nat.mul_le_mul_right _ (by omega)
      rw [Nat.succ_mul] at hj2
      rw [wr_out _ _ _ _ (.inl (by omega))]
      exact h.2 j hj s hs l v hv
    · have hj2 : (i + 1) * k ≤ j * k := Nat.mul_le_mul_right _ (by omega)
      rw [Nat.succ_mul] at hj2
      rw [wr_out _ _ _ _ (.inr (by omega))]
      exact h.2 j hj s hs l v hv
abbrev El := Int × Nat × Nat
def fillE (xs : List El) (cs : List Value) : Prop := FillR (xs.map el) 3 cs (xs.map el).length
theorem fillE.set {xs : List El} {cs : List Value} {i : Nat} {x : El} (h : fillE xs cs) (hi : i < xs.length) : fillE (xs.set i x) (wr cs (i * 3) (el x)) := by
  unfold fillE at *
  have := FillR.set (r := el x) h (by rwa [List.length_map]) (el_all _) rfl
  rwa [← List.map_set] at this
theorem fillE.rd {s : Sg} {b e : Nat} {xs : List El} {cs : List Value} {i : Nat} (h : fillE xs cs) (hb : s b = some (e, cs)) (hi : i < xs.length) : Rds s b (0 + i * 3) (el (xs.getD i (0, 0, 0))) := by
  intro j v hj
  refine ⟨e, cs, hb, ?_⟩
  rw [Nat.zero_add]
  exact h.2 i (by rwa [List.length_map]) _ (el_get hi) j v hj
theorem fillE.len {xs : List El} {cs : List Value} (h : fillE xs cs) : xs.length * 3 ≤ cs.length := by
  have := h.1
  rwa [List.length_map] at this
/-- the first i and the last i have changed places -/
def revI (xs : List El) (i : Nat) : List El := (List.range xs.length).map fun l => xs.getD (if l < i ∨ xs.length ≤ l + i then xs.length - 1 - l else l) (0, 0, 0)
@[simp] theorem revI_len (xs : List El) (i : Nat) : (revI xs i).length = xs.length := by simp [revI]
theorem revI_zero (xs : List El) : revI xs 0 = xs := by
  apply List.ext_getElem
  · simp
  · intro l h1 h2
    have hl : ¬ (xs.length ≤ l) := by omega
    simp [revI, hl, h2]
theorem revI_at {xs : List El} {i l : Nat} (h : l < xs.length) : (revI xs i).getD l (0, 0, 0) = xs.getD (if l < i ∨ xs.length ≤ l + i then xs.length - 1 - l else l) (0, 0, 0) := by
  simp [revI, List.getD_eq_getElem?_getD, h]
theorem revI_step {xs : List El} {i : Nat} (h : i < xs.length - 1 - i) : ((revI xs i).set i (xs.getD (xs.length - 1 - i) (0, 0, 0))).set (xs.length - 1 - i) (xs.getD i (0, 0, 0)) = revI xs (i + 1) := by
  apply List.ext_getElem
  · simp
  · intro l h1 h2
    simp only [List.length_set, revI_len] at h1
    rw [List.getElem_set, List.getElem_set]
    have e1 : ∀ j, (revI xs j)[l]'(by simpa using h1) = xs.getD (if l < j ∨ xs.length ≤ l + j then xs.length - 1 - l else l) (0, 0, 0) := fun j => by simp [revI]
    rw [e1 (i + 1)]
    by_cases hl1 : xs.length - 1 - i = l
    · rw [if_pos hl1, if_pos (by omega)]
      congr 1; omega
    · rw [if_neg hl1]
      by_cases hl2 : i = l
      · rw [if_pos hl2, if_pos (by omega)]
        congr 1; omega
      · rw [if_neg hl2, e1 i]
        congr 1
        by_cases hc : l < i ∨ xs.length ≤ l + i
        · rw [if_pos hc, if_pos (by omega)]
        · rw [if_neg hc, if_neg (by omega)]
theorem revI_done {xs : List El} {i : Nat} (h : ¬ (i : Int) < (xs.length : Int) - 1 - (i : Int)) : revI xs i = xs.reverse := by
  apply List.ext_getElem
  · simp
  · intro l h1 h2
    simp only [revI_len] at h1
    rw [List.getElem_reverse]
    simp only [revI, List.getElem_map, List.getElem_range]
    rw [List.getD_eq_getElem?_getD]
    have e : (if l < i ∨ xs.length ≤ l + i then xs.length - 1 - l else l) = xs.length - 1 - l := by
      split
      · rfl
      · omega
    rw [e, List.getElem?_eq_getElem (by omega)]
    rfl
def bk (x : El) : El := if x.1 = 2 then x else (x.1, Op.negFloat .f32 x.2.1, x.2.2)
theorem bk_2 {x : El} (h : x.1 = 2) : bk x = x := if_pos h
theorem bk_n {x : El} (h : ¬ x.1 = 2) : bk x = (x.1, Op.negFloat .f32 x.2.1, x.2.2) := if_neg h
def noRes (x : El) : Bool := decide (¬ x.1 = 4)
/-- the first i turned -/
def backI (ys : List El) (i : Nat) : List El := (ys.take i).map bk ++ ys.drop i
@[simp] theorem backI_len (ys : List El) (i : Nat) : (backI ys i).length = ys.length := by simp [backI]; omega
theorem backI_zero (ys : List El) : backI ys 0 = ys := by simp [backI]
theorem backI_all (ys : List El) : backI ys ys.length = ys.map bk := by simp [backI]
theorem backI_at {ys : List El} {i : Nat} (h : i < ys.length) : (backI ys i).getD i (0, 0, 0) = ys.getD i (0, 0, 0) := by
  rw [List.getD_eq_getElem?_getD, List.getD_eq_getElem?_getD, backI, List.getElem?_append_right (by simp; omega)]
  congr 1
  simp
  congr 1
  omega
theorem backI_step {ys : List El} {i : Nat} (h : i < ys.length) : (backI ys i).set i (bk (ys.getD i (0, 0, 0))) = backI ys (i + 1) := by
  have hl : ((ys.take i).map bk).length = i := by simp; omega
  rw [backI, List.set_append_right _ _ (by omega), hl, Nat.sub_self, List.drop_eq_getElem_cons h, List.set_cons_zero, backI, List.take_succ_eq_append_getElem h, List.map_append, List.append_assoc]
  simp [List.getD_eq_getElem?_getD, h]
theorem backI_same {ys : List El} {i : Nat} (h : i < ys.length) (h2 : (ys.getD i (0, 0, 0)).1 = 2) : backI ys (i + 1) = backI ys i := by
  rw [← backI_step h, bk_2 h2]
  apply List.ext_getElem?
  intro l
  by_cases hl : l = i
  · subst hl
    rw [List.getElem?_set_self (by simpa using h)]
    have := backI_at h
    rw [List.getD_eq_getElem?_getD] at this
    rw [List.getElem?_eq_getElem (by simpa using h)] at this ⊢
    simp only [Option.getD_some] at this
    rw [this]
  · rw [List.getElem?_set_ne (by omega)]
def backB (xs : List El) : Bool := lineOk xs && xs.all noRes
def backF (xs : List El) : List El := if backB xs = true then xs.reverse.map bk else []
theorem backF_no {xs : List El} (h : backB xs = false) : backF xs = [] := if_neg (by rw [h]; decide)
theorem backF_yes {xs : List El} (h : backB xs = true) : backF xs = xs.reverse.map bk := if_pos h
theorem backF_le (xs : List El) : (backF xs).length ≤ 1048576 := by
  cases h : backB xs with
  | false => rw [backF_no h]; simp
  | true =>
    rw [backF_yes h]
    simp only [backB, lineOk, Bool.and_eq_true, decide_eq_true_eq] at h
    simp; omega
theorem ok_kind {xs : List El} (h : lineOk xs = true) {i : Nat} (hi : i < xs.length) : 0 ≤ (xs.getD i (0, 0, 0)).1 ∧ (xs.getD i (0, 0, 0)).1 ≤ 4 := by
  simp only [lineOk, Bool.and_eq_true] at h
  have := List.all_eq_true.1 h.1 xs[i] (List.getElem_mem _)
  simp only [okE, elOk, Bool.and_eq_true, decide_eq_true_eq] at this
  rw [List.getD_eq_getElem?_getD, List.getElem?_eq_getElem hi]
  exact this.1
theorem getD_rev {xs : List El} {i : Nat} (h : i < xs.length) : xs.reverse.getD i (0, 0, 0) = xs.getD (xs.length - 1 - i) (0, 0, 0) := by
  rw [List.getD_eq_getElem?_getD, List.getD_eq_getElem?_getD, List.getElem?_reverse h]
theorem back_no {xs : List El} {i : Nat} (hi : i < xs.length) (h : (xs.getD i (0, 0, 0)).1 = 4) : backB xs = false := by
  have : xs.all noRes = false := all_false (d := (0, 0, 0)) hi (by unfold noRes; exact decide_eq_false (fun h9 => h9 h))
  rw [backB, this, Bool.and_false]
/-- the reference's list: the last i elements, turned, from the last on -/
def bkTo (xs : List El) (i : Nat) : List El := (List.range i).map fun j => bk (xs.getD (xs.length - 1 - j) (0, 0, 0))
@[simp] theorem bkTo_len (xs : List El) (i : Nat) : (bkTo xs i).length = i := by simp [bkTo]
theorem bkTo_succ (xs : List El) (i : Nat) : bkTo xs (i + 1) = bkTo xs i ++ [bk (xs.getD (xs.length - 1 - i) (0, 0, 0))] := by simp [bkTo, List.range_succ]
theorem bkTo_all (xs : List El) : bkTo xs xs.length = xs.reverse.map bk := by
  apply List.ext_getElem
  · simp
  · intro l h1 h2
    simp only [bkTo_len] at h1
    simp only [bkTo, List.getElem_map, List.getElem_range, List.getElem_reverse]
    rw [List.getD_eq_getElem?_getD, List.getElem?_eq_getElem (by omega)]
    rfl
theorem back_yes {xs : List El} (h : lineOk xs = true) (h2 : ∀ i, i < xs.length → ¬ (xs.getD i (0, 0, 0)).1 = 4) : backB xs = true := by
  rw [backB, h, Bool.true_and, List.all_eq_true]
  intro x hx
  obtain ⟨i, hi, rfl⟩ := List.getElem_of_mem hx
  have := h2 i hi
  rw [List.getD_eq_getElem?_getD, List.getElem?_eq_getElem hi] at this
  exact decide_eq_true this
theorem back_yes_rev {xs : List El} (h : lineOk xs = true) (h2 : ∀ i, i < xs.length → ¬ (xs.reverse.getD i (0, 0, 0)).1 = 4) : backB xs = true := back_yes h fun i hi => by
  have := h2 (xs.length - 1 - i) (by omega)
  rwa [getD_rev (by omega), show xs.length - 1 - (xs.length - 1 - i) = i by omega] at this
theorem Fsl.fill {w0 : World} {σ s : Sg} {xs : List El} {p : Option Addr} (h : Fsl w0 σ 3 (xs.map el) p s) (hn : 0 < xs.length) : ∃ b e cs, p = some ⟨b, 0, .none⟩ ∧ σ b = .none ∧ w0.heap.size ≤ b ∧ s b = some (e, cs) ∧ fillE xs cs := by
  obtain ⟨b', off', hp', _⟩ := h.reads.elem 0 hn (0, 0, 0)
  rcases h.own with h1 | ⟨b, e, cs, h1, h2, h3, h4, h5⟩
  · rw [h1] at hp'; cases hp'
  · refine ⟨b, e, cs, h1, h2, h3, h4, h5, fun j hj r hr l v hv => ?_⟩
    have hr' := h.reads
    rw [h1] at hr'
    rcases hr' with h6 | ⟨b2, o2, h6, h7⟩
    · rw [h6] at hr; simp at hr
    · cases h6
      obtain ⟨e', cs', g1, g2⟩ := h7 j r hr l v hv
      rw [h4] at g1
      cases g1
      rwa [Nat.zero_add] at g2
theorem set_mid {cs : List Value} {o : Nat} {x y z : Value} (h0 : cs[o]? = some x) (h2 : cs[o + 2]? = some z) : cs.set (o + 1) y = wr cs o [x, y, z] := by
  have e0 : cs.set o x = cs := by
    apply List.ext_getElem?
    intro i
    by_cases hi : i = o
    · subst hi
      rw [List.getElem?_set_self (List.getElem?_eq_some_iff.1 h0).1, h0]
    · rw [List.getElem?_set_ne (by omega)]
  simp only [wr, e0]
  apply List.ext_getElem?
  intro i
  by_cases hi : i = o + 1 + 1
  · subst hi
    have hl := (List.getElem?_eq_some_iff.1 h2).1
    rw [List.getElem?_set_self (by simpa using hl), List.getElem?_set_ne (by omega), h2]
  · rw [List.getElem?_set_ne (l := cs.set (o + 1) y) (by omega)]
theorem fillE.mid {xs : List El} {cs : List Value} {i : Nat} {y : Nat} (h : fillE xs cs) (hi : i < xs.length) : cs.set (0 + i * 3 + 1) (.float .f32 y) = wr cs (i * 3) (el ((xs.getD i (0, 0, 0)).1, y, (xs.getD i (0, 0, 0)).2.2)) := by
  rw [Nat.zero_add]
  exact set_mid (h.2 i (by rwa [List.length_map]) _ (el_get hi) 0 _ rfl) (h.2 i (by rwa [List.length_map]) _ (el_get hi) 2 _ rfl)
theorem RetK.zero {P : Program} {fn : Func} {w0 : World} {N : Nat} {K : Value → Sg → Prop} {t : Fr} {σ : Sg} (σ' : Sg) (hf : fn.results = #[]) (hx : Ext σ' σ) (hk : K undef σ') : RetK P fn w0 N K t σ := by
  intro a w hr hs
  refine ⟨undef, undef, σ', ?_, rfl, hx, hk⟩
  unfold results
  rw [hf]
  simp [undef]
theorem o_slnilA {P : Program} {w0 : World} {N : Nat} {t : Fr} {σ : Sg} {ty : TypeId} {x y : Operand} {T e U : TypeId} {p : Option Addr} {n c : Nat} (hu : P.underlying T = some (.slice e)) (hx : ev N t x = .slice p n c) (hy : ev N t y = .slice .none 0 0) :
    OpV P w0 N (.binOp .eql T x y U) ty t σ (.bool p.isNone) :=
  OpV.pure fun ac w hr hs => by
    refine ⟨.bool p.isNone, ?_, rfl⟩
    have e1 : binOp .eql T (.slice p n c) (.slice .none 0 0) = (do pure (.bool (← Op.equal T (.slice p n c) (.slice .none 0 0)))) := rfl
    have e2 : ∀ d, (Op.equalIn (d + 1) T (.slice p n c) (.slice .none 0 0)).run P w = .ok p.isNone w := fun d => by cases p <;> simp [Op.equalIn, run_underlying hu]
    have e3 : (Op.equal T (.slice p n c) (.slice .none 0 0)).run P w = .ok p.isNone w := e2 9999
    simp only [execOp, hr.slice hx, hr.slice hy, eqGuard, e1]
    simp [e3]
theorem flat_len (xs : List El) : (xs.map el).flatten.length = xs.length * 3 := by
  induction xs with
  | nil => rfl
  | cons x xs ih => rw [List.map_cons, List.flatten_cons, List.length_append, ih, el_len, List.length_cons, Nat.succ_mul]; omega
theorem el_one {xs : List El} {u : Value} (h : u ∈ (xs.map el).flatten) : u.oneCell' = true := by
  obtain ⟨r, hr, hu⟩ := List.mem_flatten.1 h
  obtain ⟨x, _, rfl⟩ := List.mem_map.1 hr
  simp only [el, List.mem_cons, List.not_mem_nil, or_false] at hu
  rcases hu with rfl | rfl | rfl <;> rfl
theorem flat_at : ∀ (xs : List El) (j : Nat) (v : Value), ((xs.map el).flatten)[j]? = some v → j / 3 < xs.length ∧ (el (xs.getD (j / 3) (0, 0, 0)))[j % 3]? = some v
  | [], j, v, h => by simp at h
  | x :: xs, j, v, h => by
    rw [List.map_cons, List.flatten_cons] at h
    by_cases hj : j < 3
    · rw [List.getElem?_append_left (by rw [el_len]; exact hj)] at h
      rw [show j / 3 = 0 by omega, show j % 3 = j by omega]
      exact ⟨by simp, h⟩
    · rw [List.getElem?_append_right (by rw [el_len]; omega), el_len] at h
      have ih := flat_at xs (j - 3) v h
      rw [show j / 3 = (j - 3) / 3 + 1 by omega, show j % 3 = (j - 3) % 3 by omega]
      exact ⟨by simp; exact ih.1, ih.2⟩
theorem rds_flat {s : Sg} {b off : Nat} {xs : List El} (h : Sl s 3 (some ⟨b, off, .none⟩) (xs.map el)) : Rds s b off (xs.map el).flatten := by
  intro j v hj
  obtain ⟨h1, h2⟩ := flat_at xs j v hj
  have := Sl.at h (j / 3) h1 (0, 0, 0) (j % 3) v h2
  rwa [show off + j / 3 * 3 + j % 3 = off + j by omega] at this
theorem cloneN {w0 : World} {σ : Sg} (c : Nat) :
    Fn Try.prog w0 62 [(.slice none 0 c)] σ (RetFS w0 σ 3 [] 0 id) := by
  refine Fn.of_W 8 Try.func62 rfl Try.ntmps62 rfl ?_
  refine W.seq ?_
  refine W.region ?_
  refine L.v (o_assign (v := (.slice none 0 0)) rfl) ?_
  refine L.nil ?_
  refine W.seq ?_
  refine W.seq ?_
  refine W.region ?_
  refine L.v (o_move (v := (.slice none 0 c)) rfl) ?_
  refine L.v (v := .bool true) (o_slnilA (p := none) (n := 0) (c := c) Try.underlying44 rfl rfl) ?_
  refine L.nil ?_
  refine W.condT (b := true) rfl rfl ?_
  refine W.seq ?_
  refine W.region ?_
  refine L.v (o_assign (v := (.slice none 0 0)) rfl) ?_
  refine L.nil ?_
  refine W.ret ?_
  exact RetK.one σ (.slice none 0 0) rfl rfl (Ext.refl _) ⟨none, 0, rfl, Fsl.nil 3⟩

theorem cloneZ {w0 : World} {σ : Sg} (a : Addr) (c : Nat) :
    Fn Try.prog w0 62 [(.slice (some a) 0 c)] σ (RetFS w0 σ 3 [] 0 id) := by
  refine Fn.of_W 8 Try.func62 rfl Try.ntmps62 rfl ?_
  refine W.seq ?_
  refine W.region ?_
  refine L.v (o_assign (v := (.slice none 0 0)) rfl) ?_
  refine L.nil ?_
  refine W.seq ?_
  refine W.seq ?_
  refine W.region ?_
  refine L.v (o_move (v := (.slice (some a) 0 c)) rfl) ?_
  refine L.v (v := .bool false) (o_slnilA (p := (some a)) (n := 0) (c := c) Try.underlying44 rfl rfl) ?_
  refine L.nil ?_
  refine W.condF (b := false) rfl rfl ?_
  refine W.skip ?_
  refine W.seq ?_
  refine W.region ?_
  refine L.cons (o_buildSlice0 (info := Try.t68) Try.underlying44 Try.type68) ?_
  rintro _ _ ⟨b1, hf2, hw3, rfl, rfl⟩
  refine L.v (o_move (v := (.slice (some a) 0 c)) rfl) ?_
  refine L.v (o_append0 (info := Try.t68) Try.underlying44 Try.type68 rfl rfl) ?_
  refine L.v (o_assign (v := (.slice (some ⟨b1, 0, none⟩) 0 0)) rfl) ?_
  refine L.nil ?_
  refine W.ret ?_
  exact RetK.one _ (.slice (some ⟨b1, 0, none⟩) 0 0) rfl rfl (Ext.refl _) ⟨some ⟨b1, 0, none⟩, 0, rfl, ⟨.inl rfl, (Ext.refl _).sg hf2, .inr ⟨b1, _, [], rfl, hf2, hw3, sg_eq _ _ _, by simp⟩⟩⟩

theorem cloneM {w0 : World} {σ : Sg} (p : Option Addr) (c : Nat) (xs : List (Int × Nat × Nat)) (hs : Sl σ 3 p (xs.map el)) (hn : 0 < xs.length ∧ xs.length ≤ 1048576) :
    Fn Try.prog w0 62 [(.slice p xs.length c)] σ (RetFS w0 σ 3 (xs.map el) xs.length id) := by
  refine Fn.of_W 8 Try.func62 rfl Try.ntmps62 rfl ?_
  refine W.seq ?_
  refine W.region ?_
  refine L.v (o_assign (v := (.slice none 0 0)) rfl) ?_
  refine L.nil ?_
  refine W.seq ?_
  refine W.seq ?_
  obtain ⟨b1, o2, rfl, _⟩ := hs.elem 0 (by omega) (0, 0, 0)
  refine W.region ?_
  refine L.v (o_move (v := (.slice (some ⟨b1, o2, none⟩) xs.length c)) rfl) ?_
  refine L.v (v := .bool false) (o_slnilA (p := (some ⟨b1, o2, none⟩)) (n := xs.length) (c := c) Try.underlying44 rfl rfl) ?_
  refine L.nil ?_
  refine W.condF (b := false) rfl rfl ?_
  refine W.skip ?_
  refine W.seq ?_
  refine W.region ?_
  refine L.cons (o_buildSlice0 (info := Try.t68) Try.underlying44 Try.type68) ?_
  rintro _ _ ⟨b3, hf4, hw5, rfl, rfl⟩
  have ho0 := Own.new (σ := σ) (e := 68) 3 hw5
  have hx0 : Ext σ (sg σ b3 (68, [])) := (Ext.refl _).sg hf4
  have hv0 := ownAt (n := 0) (c := 0) hf4
  refine L.v (o_move (v := (.slice (some ⟨b1, o2, none⟩) xs.length c)) rfl) ?_
  have hrd : Rds σ b1 (o2) (xs.map el).flatten := rds_flat (hs)
  refine L.cons (o_append (info := Try.t68) (z := (.agg #[.int .i64 0, .float .f32 0, .float .f32 0])) (size := 3) (bytes := 16) (v := (.slice (some ⟨b3, 0, none⟩) 0 0)) (n := 0) (m := xs.length) (c := c) (b := b1) (off := o2) (xs := []) (news := (xs.map el).flatten) Try.underlying44 Try.type68 rfl rfl rfl rfl rfl ho0 rfl (by omega) (by rw [flat_len]) (Rds.ext hrd hx0) (by intro u hu; exact el_one hu) (by unfold maxLen; omega) (by omega)) ?_
  rintro v2 s2 ⟨h3, h4⟩
  have hx2 := Grew.ext h4 hx0 hv0
  have hv2 := Grew.fresh h4 hx0 hv0
  refine L.v (o_assign (v := v2) rfl) ?_
  refine L.nil ?_
  refine W.ret ?_
  obtain ⟨p', c', hpc, hfs⟩ := Fsl.of_own (rows := xs.map el) (n := xs.length) (by have h := h3; rwa [Nat.zero_add, List.nil_append] at h) (by simp) (el_all _) hx2 hv2
  exact RetK.one s2 v2 rfl rfl (Ext.refl _) ⟨p', c', hpc, hfs⟩

theorem cloneE {w0 : World} {σ : Sg} (p : Option Addr) (c : Nat) (xs : List (Int × Nat × Nat)) (hs : Sl σ 3 p (xs.map el)) (hn : xs.length ≤ 1048576) : Fn Try.prog w0 62 [.slice p xs.length c] σ (RetFS w0 σ 3 (xs.map el) xs.length id) := by
  by_cases h0 : xs.length = 0
  · obtain rfl : xs = [] := List.eq_nil_of_length_eq_zero h0
    cases p with
    | none => exact cloneN c
    | some a => exact cloneZ a c
  · exact cloneM p c xs hs ⟨by omega, hn⟩

theorem revN {w0 : World} {σ : Sg} (b e c : Nat) (cs0 : List Value) (xs : List El) (hb : σ b = some (e, cs0)) (hw : w0.heap.size ≤ b) (hfl0 : fillE xs cs0) (hn : xs.length ≤ 1048576) :
    Fn Try.prog w0 63 [(.slice (some ⟨b, 0, none⟩) xs.length c)] σ (fun u s => ∃ cs, s = sg σ b (e, cs) ∧ fillE xs.reverse cs) := by
  refine Fn.of_W 28 Try.func63 rfl Try.ntmps63 rfl ?_
  refine W.seq ?_
  refine W.region ?_
  refine L.v (o_move (v := (.slice (some ⟨b, 0, none⟩) xs.length c)) rfl) ?_
  refine L.v (o_len (p := (some ⟨b, 0, none⟩)) (n := xs.length) (c := c) Try.underlying44 rfl) ?_
  refine L.v (o_isub (a := (xs.length : Int)) (b := 1) (c := (xs.length : Int) - 1) rfl rfl (by rw [IntWalk.i64_in _ (by omega)]; try (push_cast; omega))) ?_
  refine L.v (o_assign (v := (.int .i64 0)) rfl) ?_
  refine L.v (o_assign (v := (.int .i64 ((xs.length : Int) - 1))) rfl) ?_
  refine L.nil ?_
  refine W.block ?_
  refine W.loop (fun nn tt ss => ∃ (i : Nat), ∃ (cs : List Value), nn = xs.length - i ∧ (i ≤ xs.length) ∧ (fillE (revI xs i) cs) ∧ FrOk tt [(0, (.slice (some ⟨b, 0, none⟩) xs.length c)), (2, (.int .i64 (i : Int))), (3, (.int .i64 ((xs.length : Int) - 1 - (i : Int))))] ∧ sg σ b (e, cs) = ss) _ ⟨0, cs0, rfl, (by omega), (by rw [revI_zero]; exact hfl0), ⟨rfl, rfl, (by show Value.int .i64 _ = _; congr 1; omega), trivial⟩, sg_same hb⟩ ?_
  rintro _ t1 _ ⟨i, cs, rfl, hi, hfl, f2, rfl⟩
  rw [← frame_ok f2]
  show W _ _ _ _ _ (upd (upd (upd t1 0 (.slice (some ⟨b, 0, none⟩) xs.length c)) 2 (.int .i64 (i : Int))) 3 (.int .i64 ((xs.length : Int) - 1 - (i : Int)))) _
  refine W.seq ?_
  refine W.seq ?_
  refine W.region ?_
  refine L.v (o_move (v := (.int .i64 (i : Int))) rfl) ?_
  refine L.v (o_move (v := (.int .i64 ((xs.length : Int) - 1 - (i : Int)))) rfl) ?_
  refine L.v (o_ilss (a := (i : Int)) (b := (xs.length : Int) - 1 - (i : Int)) rfl rfl rfl) ?_
  refine L.nil ?_
  refine W.cond (b := decide (((i : Int) : Int) < ((xs.length : Int) - 1 - (i : Int)))) rfl (fun q3 => ?_) (fun q3 => ?_)
  ·
    have a4 : ((i : Int) : Int) < ((xs.length : Int) - 1 - (i : Int)) := of_decide_eq_true q3
    refine W.skip ?_
    refine W.seq ?_
    refine W.block ?_
    refine W.draw3 [0, 1, 2, 3, 4, 5, 6, 8, 9, 10] [7, 11, 12] 13 [14, 15] [true, false] (fun s => s = sg σ b (e, cs)) (by kernel_rfl) (by kernel_rfl) ?_
    refine QT.v (fun _ _ => o_move (v := (.slice (some ⟨b, 0, none⟩) xs.length c)) rfl) ?_
    refine QT.v (fun _ _ => o_move (v := (.int .i64 (i : Int))) rfl) ?_
    refine QT.v (fun _ _ => o_move (v := (.slice (some ⟨b, 0, none⟩) xs.length c)) rfl) ?_
    refine QT.v (fun _ _ => o_move (v := (.int .i64 ((xs.length : Int) - 1 - (i : Int)))) rfl) ?_
    refine QT.v (fun _ _ => o_move (v := (.slice (some ⟨b, 0, none⟩) xs.length c)) rfl) ?_
    refine QT.v (fun _ _ => o_move (v := (.int .i64 ((xs.length : Int) - 1 - (i : Int)))) rfl) ?_
    refine QT.v (fun _ _ => o_indexAddr (b := b) (off := 0) (n := xs.length) (c := c) (xs.length - 1 - i) Try.underlying44 Try.sizeOf68 rfl (by show Value.int .i64 _ = Value.int .i64 _; congr 1; omega) (by omega)) ?_
    refine QT.v (fun _ _ => o_move (v := (.slice (some ⟨b, 0, none⟩) xs.length c)) rfl) ?_
    refine QT.v (fun _ _ => o_move (v := (.int .i64 (i : Int))) rfl) ?_
    refine QT.v (fun _ _ => o_indexAddr (b := b) (off := 0) (n := xs.length) (c := c) i Try.underlying44 Try.sizeOf68 rfl rfl (by omega)) ?_
    refine QT.nil ?_
    refine QT.v (fun _ hD => by cases hD; exact o_loads (b := b) (off := 0 + (xs.length - 1 - i) * 3) (vs := [(.int .i64 (((revI xs i).getD (xs.length - 1 - i) (0, 0, 0)).1)), (.float .f32 (((revI xs i).getD (xs.length - 1 - i) (0, 0, 0)).2.1)), (.float .f32 (((revI xs i).getD (xs.length - 1 - i) (0, 0, 0)).2.2))]) Try.isAgg68 Try.sizeOf68 rfl rfl (fillE.rd hfl (sg_eq _ _ _) (by rw [revI_len]; omega))) ?_
    refine QT.v (fun _ hD => by cases hD; exact o_loads (b := b) (off := 0 + i * 3) (vs := [(.int .i64 (((revI xs i).getD i (0, 0, 0)).1)), (.float .f32 (((revI xs i).getD i (0, 0, 0)).2.1)), (.float .f32 (((revI xs i).getD i (0, 0, 0)).2.2))]) Try.isAgg68 Try.sizeOf68 rfl rfl (fillE.rd hfl (sg_eq _ _ _) (by rw [revI_len]; omega))) ?_
    refine QT.v (fun _ hD => by cases hD; exact o_indexAddr (b := b) (off := 0) (n := xs.length) (c := c) i Try.underlying44 Try.sizeOf68 rfl rfl (by omega)) ?_
    refine QT.nil ?_
    refine QE.e0 rfl (o_stores (b := b) (off := 0 + i * 3) (vs := [(.int .i64 (((revI xs i).getD (xs.length - 1 - i) (0, 0, 0)).1)), (.float .f32 (((revI xs i).getD (xs.length - 1 - i) (0, 0, 0)).2.1)), (.float .f32 (((revI xs i).getD (xs.length - 1 - i) (0, 0, 0)).2.2))]) Try.sizeOf68 rfl rfl rfl (by simp [Value.oneCell']) (sg_eq _ _ _) (by have := hfl.len; rw [revI_len] at this; (try rw [wr_length]); show 0 + i * 3 + 3 ≤ _; omega) hw) ?_
    rintro _ _ ⟨rfl, rfl⟩
    rw [sg_sg, show 0 + i * 3 = i * 3 by omega]
    refine DL.v (fun _ _ => o_indexAddr (b := b) (off := 0) (n := xs.length) (c := c) (xs.length - 1 - i) Try.underlying44 Try.sizeOf68 rfl (by show Value.int .i64 _ = Value.int .i64 _; congr 1; omega) (by omega)) ?_
    refine DL.e0 trivial (o_stores (b := b) (off := 0 + (xs.length - 1 - i) * 3) (vs := [(.int .i64 (((revI xs i).getD i (0, 0, 0)).1)), (.float .f32 (((revI xs i).getD i (0, 0, 0)).2.1)), (.float .f32 (((revI xs i).getD i (0, 0, 0)).2.2))]) Try.sizeOf68 rfl rfl rfl (by simp [Value.oneCell']) (sg_eq _ _ _) (by have := hfl.len; rw [revI_len] at this; (try rw [wr_length]); show 0 + (xs.length - 1 - i) * 3 + 3 ≤ _; omega) hw) ?_
    rintro _ _ ⟨rfl, rfl⟩
    rw [sg_sg, show 0 + (xs.length - 1 - i) * 3 = (xs.length - 1 - i) * 3 by omega]
    refine DL.nil trivial ?_
    refine W.region ?_
    refine L.v (o_move (v := (.int .i64 (i : Int))) rfl) ?_
    refine L.v (o_iadd (a := (i : Int)) (b := 1) (c := ((i + 1 : Nat) : Int)) rfl rfl (by rw [IntWalk.i64_in _ (by omega)]; try (push_cast; omega))) ?_
    refine L.v (o_move (v := (.int .i64 ((xs.length : Int) - 1 - (i : Int)))) rfl) ?_
    refine L.v (o_isub (a := (xs.length : Int) - 1 - (i : Int)) (b := 1) (c := (xs.length : Int) - 1 - ((i + 1 : Nat) : Int)) rfl rfl (by rw [IntWalk.i64_in _ (by omega)]; try (push_cast; omega))) ?_
    refine L.v (o_assign (v := (.int .i64 (((i + 1 : Nat) : Int)))) rfl) ?_
    refine L.v (o_assign (v := (.int .i64 ((xs.length : Int) - 1 - ((i + 1 : Nat) : Int)))) rfl) ?_
    refine L.nil ?_
    exact ⟨_, (by omega), i + 1, wr (wr cs (i * 3) [(.int .i64 (((revI xs i).getD (xs.length - 1 - i) (0, 0, 0)).1)), (.float .f32 (((revI xs i).getD (xs.length - 1 - i) (0, 0, 0)).2.1)), (.float .f32 (((revI xs i).getD (xs.length - 1 - i) (0, 0, 0)).2.2))]) ((xs.length - 1 - i) * 3) [(.int .i64 (((revI xs i).getD i (0, 0, 0)).1)), (.float .f32 (((revI xs i).getD i (0, 0, 0)).2.1)), (.float .f32 (((revI xs i).getD i (0, 0, 0)).2.2))], rfl, (by omega), (by have h1 := fillE.set (x := (revI xs i).getD (xs.length - 1 - i) (0, 0, 0)) hfl (by rw [revI_len]; omega : i < (revI xs i).length); have h2 := fillE.set (x := (revI xs i).getD i (0, 0, 0)) h1 (by rw [List.length_set, revI_len]; omega : xs.length - 1 - i < _); have h3 : ((revI xs i).set i ((revI xs i).getD (xs.length - 1 - i) (0, 0, 0))).set (xs.length - 1 - i) ((revI xs i).getD i (0, 0, 0)) = revI xs (i + 1) := (by rw [revI_at (by omega), revI_at (by omega), if_neg (by omega), if_neg (by omega), revI_step (by omega)]); rw [h3] at h2; exact h2), ⟨rfl, rfl, rfl, trivial⟩, rfl⟩
  ·
    have a5 : ¬ (((i : Int) : Int) < ((xs.length : Int) - 1 - (i : Int))) := of_decide_eq_false q3
    refine W.exit ?_
    exact RetK.zero _ rfl (Ext.refl _) ⟨cs, rfl, by rw [← revI_done (i := i) (by omega)]; exact hfl⟩

theorem revZ {w0 : World} {σ : Sg} (p : Option Addr) (c : Nat) :
    Fn Try.prog w0 63 [(.slice p 0 c)] σ (fun u s => s = σ) := by
  refine Fn.of_W 28 Try.func63 rfl Try.ntmps63 rfl ?_
  refine W.seq ?_
  refine W.region ?_
  refine L.v (o_move (v := (.slice p 0 c)) rfl) ?_
  refine L.v (o_len (p := p) (n := 0) (c := c) Try.underlying44 rfl) ?_
  refine L.v (o_isub (a := 0) (b := 1) (c := -1) rfl rfl (by rw [IntWalk.i64_in _ (by omega)]; try omega)) ?_
  refine L.v (o_assign (v := (.int .i64 0)) rfl) ?_
  refine L.v (o_assign (v := (.int .i64 (-1))) rfl) ?_
  refine L.nil ?_
  refine W.block ?_
  refine W.loop (fun nn tt ss => ∃ (i : Nat), nn = 0 ∧ (i = 0) ∧ FrOk tt [(0, (.slice p 0 c)), (2, (.int .i64 0)), (3, (.int .i64 (-1)))] ∧ σ = ss) _ ⟨0, rfl, (by omega), ⟨rfl, rfl, rfl, trivial⟩, rfl⟩ ?_
  rintro _ t1 _ ⟨i, rfl, hi, f2, rfl⟩
  rw [← frame_ok f2]
  show W _ _ _ _ _ (upd (upd (upd t1 0 (.slice p 0 c)) 2 (.int .i64 0)) 3 (.int .i64 (-1))) _
  refine W.seq ?_
  refine W.seq ?_
  refine W.region ?_
  refine L.v (o_move (v := (.int .i64 0)) rfl) ?_
  refine L.v (o_move (v := (.int .i64 (-1))) rfl) ?_
  refine L.v (o_ilss (a := 0) (b := -1) rfl rfl rfl) ?_
  refine L.nil ?_
  refine W.cond (b := decide ((0 : Int) < (-1))) rfl (fun q3 => ?_) (fun q3 => ?_)
  ·
    have a4 : (0 : Int) < (-1) := of_decide_eq_true q3
    exact absurd (of_decide_eq_true q3) (by omega)
  ·
    have a5 : ¬ ((0 : Int) < (-1)) := of_decide_eq_false q3
    refine W.exit ?_
    exact RetK.zero σ rfl (Ext.refl _) rfl

end Go.Proofs.Ytpgmpjejfpmnoaa.En
