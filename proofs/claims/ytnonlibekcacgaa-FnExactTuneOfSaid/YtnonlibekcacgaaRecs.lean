/- The laws' own helpers over lists of rays and lists of complex numbers. -/
import Derived.Test.YtnonlibekcacgaaEngX
import Derived.Test.YtnonlibekcacgaaFlts
import Derived.Test.YtnonlibekcacgaaSineA
import Derived.Test.YtnonlibekcacgaaRows
namespace Go.Proofs.Ytnonlibekcacgaa.En
open Go
set_option linter.unusedVariables false
set_option maxRecDepth 100000
theorem wr_out (vs : List Value) : ∀ (cs : List Value) (o k : Nat), k < o ∨ o + vs.length ≤ k → (wr cs o vs)[k]? = cs[k]? := by
  induction vs with
  | nil => intro cs o k h; rfl
  | cons u us ih =>
    intro cs o k h
    simp only [List.length_cons] at h
    rw [wr, ih _ _ _ (by omega), List.getElem?_set_ne (by omega)]
theorem wr_in (vs : List Value) : ∀ (cs : List Value) (o l : Nat) (v : Value), vs[l]? = some v → o + vs.length ≤ cs.length → (wr cs o vs)[o + l]? = some v := by
  induction vs with
  | nil => intro cs o l v h; simp at h
  | cons u us ih =>
    intro cs o l v h hl
    simp only [List.length_cons] at hl
    cases l with
    | zero =>
      simp at h
      subst h
      rw [Nat.add_zero, wr, wr_out us _ _ _ (.inl (by omega)), List.getElem?_set_self (by omega)]
    | succ l =>
      rw [wr, show o + (l + 1) = o + 1 + l by omega]
      exact ih _ _ _ _ (by simpa using h) (by rw [List.length_set]; omega)
/-- the first i rows lie in the cells -/
def FillR (rows : List (List Value)) (k : Nat) (cs : List Value) (i : Nat) : Prop := rows.length * k ≤ cs.length ∧ ∀ j, j < i → ∀ (r : List Value), rows[j]? = some r → ∀ (l : Nat) (v : Value), r[l]? = some v → cs[j * k + l]? = some v
theorem FillR.zero {rows : List (List Value)} {k : Nat} {cs : List Value} (h : rows.length * k ≤ cs.length) : FillR rows k cs 0 := ⟨h, fun j hj => by omega⟩
theorem FillR.step {rows : List (List Value)} {k : Nat} {cs : List Value} {i : Nat} {r : List Value} (h : FillR rows k cs i) (hr : rows[i]? = some r) (hk : ∀ r ∈ rows, r.length = k) : FillR rows k (wr cs (i * k) r) (i + 1) := by
  have hi : i < rows.length := (List.getElem?_eq_some_iff.1 hr).1
  have hm : (i + 1) * k ≤ rows.length * k := Nat.mul_le_mul_right _ hi
  rw [Nat.succ_mul] at hm
  have h1 := h.1
  refine ⟨by rw [wr_length]; exact h.1, fun j hj s hs l v hv => ?_⟩
  have hl : l < k := by
    have := (List.getElem?_eq_some_iff.1 hv).1
    rwa [hk s (List.mem_of_getElem? hs)] at this
  by_cases hji : j = i
  · subst hji
    rw [hr] at hs
    cases hs
    exact wr_in _ _ _ _ _ hv (by rw [hk r (List.mem_of_getElem? hr)]; omega)
  · have hj2 : (j + 1) * k ≤ i * k := Nat.mul_le_mul_right _ (by omega)
    rw [Nat.succ_mul] at hj2
    rw [wr_out _ _ _ _ (.inl (by omega))]
    exact h.2 j (by omega) s hs l v hv
theorem FillR.sl {s : Sg} {b e k : Nat} {rows : List (List Value)} {cs : List Value} (h : FillR rows k cs rows.length) (hb : s b = some (e, cs)) : Sl s k (some ⟨b, 0, .none⟩) rows :=
  .inr ⟨b, 0, rfl, fun i r hr j v hj => ⟨e, cs, hb, by rw [Nat.zero_add]; exact h.2 i (List.getElem?_eq_some_iff.1 hr).1 r hr j v hj⟩⟩
theorem FillR.fs {w0 : World} {σ : Sg} {b e k : Nat} {rows : List (List Value)} {cs : List Value} (h : FillR rows k cs rows.length) (hf : σ b = .none) (hw : w0.heap.size ≤ b) : Fsl w0 σ k rows (some ⟨b, 0, .none⟩) (sg σ b (e, cs)) :=
  ⟨h.sl (sg_eq _ _ _), (Ext.refl _).sg hf, .inr ⟨b, e, cs, rfl, hf, hw, sg_eq _ _ _, h.1⟩⟩
theorem made_len (z : Array Value) (n : Nat) : (madeCells z n).toList.length = n := by simp [madeCells]
theorem mark_val {n : Int} (h : 0 ≤ n ∧ n < 4503599627370496) : ∃ x : Int, val (FloatKind.nearest .f64 n) = some x ∧ x.natAbs ≤ P2 1174 := by
  obtain ⟨m, rfl⟩ : ∃ m : Nat, n = (m : Int) := ⟨n.toNat, by omega⟩
  have hm : m < 2 ^ 52 := by show m < 4503599627370496; omega
  refine ⟨_, val_nat hm, ?_⟩
  rw [Int.natAbs_natCast, show (1174 : Nat) = 100 + 1074 by decide, P2_add]
  refine Nat.mul_le_mul_right _ (Nat.le_trans (Nat.le_of_lt hm) ?_)
  rw [← P2_def]; exact P2_le (by decide)
theorem mark_ok {n : Int} (h : 0 ≤ n ∧ n < 4503599627370496) : okcvt .f64 .f32 (FloatKind.nearest .f64 n) = true := let ⟨_, h1, h2⟩ := mark_val h; okcvt_val h1 h2
theorem cvt_num {b : Nat} {x : Int} (h : val b = some x) : isnan .f32 (cvt .f64 .f32 b) = false ∨ okcvt .f64 .f32 b = false := by
  obtain ⟨s, m, e, hr, _, _⟩ := read_some h
  have hd : FloatKind.f64.decode b = .number s m e := hr
  have hn := isnan_val h
  unfold okcvt cvt floatToFloatBits
  rw [if_neg (by decide), hd, hn]
  simp only
  split
  · right; rfl
  · left
    cases hc : isnan .f32 (FloatKind.f32.encode (.number s m e)) with
    | false => exact hc
    | true =>
      obtain ⟨s', t, hh⟩ := decode_nan hc
      exact absurd hh (isnan_nearest _ _ _ _ s' t)
theorem mark_num {n : Int} (h : 0 ≤ n ∧ n < 4503599627370496) : isnan .f32 (cvt .f64 .f32 (FloatKind.nearest .f64 n)) = false := by
  obtain ⟨x, h1, h2⟩ := mark_val h
  rcases cvt_num h1 with h3 | h3
  · exact h3
  · rw [okcvt_val h1 h2] at h3; cases h3
theorem one_num : isnan .f32 (cvt .f64 .f32 4607182418800017408) = false := by decide +kernel
theorem cneq_self {a b : Nat} (ha : isnan .f32 a = false) (hb : isnan .f32 b = false) : (!(fcmp .eql .f32 a a && fcmp .eql .f32 b b)) = false := by
  rw [fcmp_eql_self ha, fcmp_eql_self hb]; rfl
def ry (x : Nat × Nat × Nat × Nat) : List Value := [.complex .f32 x.1 x.2.1, .float .f32 x.2.2.1, .float .f32 x.2.2.2]
theorem ry_all (xs : List (Nat × Nat × Nat × Nat)) : ∀ r ∈ xs.map ry, r.length = 3 := by
  intro r hr
  obtain ⟨x, hx, rfl⟩ := List.mem_map.1 hr
  rfl
theorem ry_ne (xs : List (Nat × Nat × Nat × Nat)) : ∀ r ∈ xs.map ry, r ≠ [] := by
  intro r hr e
  have h := ry_all xs r hr
  rw [e] at h; cases h
theorem ry_get {xs : List (Nat × Nat × Nat × Nat)} {i : Nat} (h : i < xs.length) : (xs.map ry)[i]? = some (ry (xs.getD i (0, 0, 0, 0))) := by simp [h]
def mkry (k : Int) (n : Nat) : List (Nat × Nat × Nat × Nat) := (List.range n).map fun (j : Nat) => (cvt .f64 .f32 (FloatKind.nearest .f64 (k + 3 * (j : Int))), cvt .f64 .f32 4607182418800017408, FloatKind.nearest .f32 (k + 3 * (j : Int) + 1), FloatKind.nearest .f32 (k + 3 * (j : Int) + 2))
@[simp] theorem mkry_len (k : Int) (n : Nat) : (mkry k n).length = n := by simp [mkry]
theorem mkry_get {k : Int} {n i : Nat} (h : i < n) : ((mkry k n).map ry)[i]? = some [.complex .f32 (cvt .f64 .f32 (FloatKind.nearest .f64 (k + 3 * (i : Int)))) (cvt .f64 .f32 4607182418800017408), .float .f32 (FloatKind.nearest .f32 (k + 3 * (i : Int) + 1)), .float .f32 (FloatKind.nearest .f32 (k + 3 * (i : Int) + 2))] := by simp [mkry, h, ry]
theorem Sl.mkry {s : Sg} {k : Int} {n i : Nat} {b off : Nat} (h : Sl s 3 (some ⟨b, off, .none⟩) ((En.mkry k n).map ry)) (hi : i < n) : Rds s b (off + i * 3) [.complex .f32 (cvt .f64 .f32 (FloatKind.nearest .f64 (k + 3 * (i : Int)))) (cvt .f64 .f32 4607182418800017408), .float .f32 (FloatKind.nearest .f32 (k + 3 * (i : Int) + 1)), .float .f32 (FloatKind.nearest .f32 (k + 3 * (i : Int) + 2))] := by
  obtain ⟨b', off', hp, hr⟩ := h.get (mkry_get hi)
  cases hp
  exact hr
def cx (x : Nat × Nat) : List Value := [.complex .f32 x.1 x.2]
theorem cx_all (xs : List (Nat × Nat)) : ∀ r ∈ xs.map cx, r.length = 1 := by
  intro r hr
  obtain ⟨x, hx, rfl⟩ := List.mem_map.1 hr
  rfl
theorem cx_ne (xs : List (Nat × Nat)) : ∀ r ∈ xs.map cx, r ≠ [] := by
  intro r hr e
  have h := cx_all xs r hr
  rw [e] at h; cases h
theorem cx_get {xs : List (Nat × Nat)} {i : Nat} (h : i < xs.length) : (xs.map cx)[i]? = some (cx (xs.getD i (0, 0))) := by simp [h]
def mkcx (k : Int) (n : Nat) : List (Nat × Nat) := (List.range n).map fun (j : Nat) => (cvt .f64 .f32 (FloatKind.nearest .f64 (k + 1 * (j : Int))), cvt .f64 .f32 4607182418800017408)
@[simp] theorem mkcx_len (k : Int) (n : Nat) : (mkcx k n).length = n := by simp [mkcx]
theorem mkcx_get {k : Int} {n i : Nat} (h : i < n) : ((mkcx k n).map cx)[i]? = some [.complex .f32 (cvt .f64 .f32 (FloatKind.nearest .f64 (k + 1 * (i : Int)))) (cvt .f64 .f32 4607182418800017408)] := by simp [mkcx, h, cx]
theorem Sl.mkcx {s : Sg} {k : Int} {n i : Nat} {b off : Nat} (h : Sl s 1 (some ⟨b, off, .none⟩) ((En.mkcx k n).map cx)) (hi : i < n) : Rds s b (off + i * 1) [.complex .f32 (cvt .f64 .f32 (FloatKind.nearest .f64 (k + 1 * (i : Int)))) (cvt .f64 .f32 4607182418800017408)] := by
  obtain ⟨b', off', hp, hr⟩ := h.get (mkcx_get hi)
  cases hp
  exact hr
theorem sameComplex_c {w0 : World} {σ : Sg} (a b : Nat) :
    FnV Try.prog w0 38 [(.complex .f64 a b), (.complex .f64 a b)] σ (.bool true) := by
  unfold FnV
  refine Fn.of_W 17 Try.func38 rfl Try.ntmps38 rfl ?_
  refine W.seq ?_
  refine W.region ?_
  refine L.v (o_assign (v := (.bool false)) rfl) ?_
  refine L.nil ?_
  refine W.seq ?_
  refine W.region ?_
  refine L.v (o_move (v := (.complex .f64 a b)) rfl) ?_
  refine L.v (o_real (k := .f64) (a := a) (b := b) rfl) ?_
  refine L.v (o_move (v := (.complex .f64 a b)) rfl) ?_
  refine L.v (o_real (k := .f64) (a := a) (b := b) rfl) ?_
  refine L.v (v := (.bool true)) (op_call [(.float .f64 a), (.float .f64 a)] Try.call14 rfl (sameFloat_c a)) ?_
  refine L.v (o_move (v := (.bool true)) rfl) ?_
  refine L.gv (j := 5) (d₁ := 10) (b := true) rfl rfl rfl rfl (o_move (v := (.complex .f64 a b)) rfl) ?_
  refine L.gv (j := 5) (d₁ := 10) (b := true) rfl rfl rfl rfl (o_imag (k := .f64) (a := a) (b := b) rfl) ?_
  refine L.gv (j := 5) (d₁ := 10) (b := true) rfl rfl rfl rfl (o_move (v := (.complex .f64 a b)) rfl) ?_
  refine L.gv (j := 5) (d₁ := 10) (b := true) rfl rfl rfl rfl (o_imag (k := .f64) (a := a) (b := b) rfl) ?_
  refine L.gv (j := 5) (d₁ := 10) (b := true) rfl rfl rfl rfl (v := (.bool true)) (op_call [(.float .f64 b), (.float .f64 b)] Try.call14 rfl (sameFloat_c b)) ?_
  refine L.v (o_pickT (b := true) (v := (.bool true)) rfl rfl rfl) ?_
  refine L.v (o_assign (v := (.bool true)) rfl) ?_
  refine L.nil ?_
  refine W.ret ?_
  exact RetK.one σ (.bool true) rfl rfl (Ext.refl _) ⟨rfl, rfl⟩

theorem eqRay_c {w0 : World} {σ : Sg} (a0 b0 a1 a2 : Nat) :
    FnV Try.prog w0 56 [(.agg #[(.complex .f32 a0 b0), (.float .f32 a1), (.float .f32 a2)]), (.agg #[(.complex .f32 a0 b0), (.float .f32 a1), (.float .f32 a2)])] σ (.bool true) := by
  unfold FnV
  refine Fn.of_W 29 Try.func56 rfl Try.ntmps56 rfl ?_
  refine W.seq ?_
  refine W.region ?_
  refine L.cons (o_box (v := (.agg #[(.complex .f32 a0 b0), (.float .f32 a1), (.float .f32 a2)])) rfl rfl [(.complex .f32 a0 b0), (.float .f32 a1), (.float .f32 a2)] rfl) ?_
  rintro _ _ ⟨b1, hf2, hw3, rfl, rfl⟩
  have hb6 : (sg σ b1 (82, [(.complex .f32 a0 b0), (.float .f32 a1), (.float .f32 a2)])) b1 = some (82, [(.complex .f32 a0 b0), (.float .f32 a1), (.float .f32 a2)]) := sg_eq _ _ _
  have hx5 : Ext σ (sg σ b1 (82, [(.complex .f32 a0 b0), (.float .f32 a1), (.float .f32 a2)])) := (Ext.refl _).sg hf2
  have ehx5 := Ext.trans (Ext.refl _) hx5
  generalize hgs4 : sg σ b1 (82, [(.complex .f32 a0 b0), (.float .f32 a1), (.float .f32 a2)]) = s4 at *
  clear hgs4
  refine L.cons (o_box (v := (.agg #[(.complex .f32 a0 b0), (.float .f32 a1), (.float .f32 a2)])) rfl rfl [(.complex .f32 a0 b0), (.float .f32 a1), (.float .f32 a2)] rfl) ?_
  rintro _ _ ⟨b7, hf8, hw9, rfl, rfl⟩
  have hb12 : (sg s4 b7 (82, [(.complex .f32 a0 b0), (.float .f32 a1), (.float .f32 a2)])) b7 = some (82, [(.complex .f32 a0 b0), (.float .f32 a1), (.float .f32 a2)]) := sg_eq _ _ _
  have hx11 : Ext s4 (sg s4 b7 (82, [(.complex .f32 a0 b0), (.float .f32 a1), (.float .f32 a2)])) := (Ext.refl _).sg hf8
  have hb13 := hx11 _ _ hb6
  have ehx11 := Ext.trans ehx5 hx11
  generalize hgs10 : sg s4 b7 (82, [(.complex .f32 a0 b0), (.float .f32 a1), (.float .f32 a2)]) = s10 at *
  clear hgs10
  refine L.v (o_assign (v := (.bool false)) rfl) ?_
  refine L.nil ?_
  refine W.seq ?_
  refine W.seq ?_
  refine W.region ?_
  refine L.v (o_fieldAddr (b := b1) (off := 0) (o := 0) (run_fieldAt (f := 0) (fld := { name := "At", type := 57, offset := 0, embedded := false, tag := "", pkgPath := "", byteOffset := 0 }) Try.underlying82 rfl Try.sizeOf57 (Nat.succ_ne_zero _)) rfl) ?_
  refine L.v (o_load (b := b1) (off := 0 + 0) (v := (.complex .f32 a0 b0)) Try.isAgg57 rfl (Rd.of hb13 rfl) rfl) ?_
  refine L.v (o_cvCC (s := .f32) (d := .f64) (a := a0) (b := b0) (by rw [Try.underlying57]; rfl) Try.underlying61 rfl (okw a0) (okw b0)) ?_
  refine L.v (o_fieldAddr (b := b7) (off := 0) (o := 0) (run_fieldAt (f := 0) (fld := { name := "At", type := 57, offset := 0, embedded := false, tag := "", pkgPath := "", byteOffset := 0 }) Try.underlying82 rfl Try.sizeOf57 (Nat.succ_ne_zero _)) rfl) ?_
  refine L.v (o_load (b := b7) (off := 0 + 0) (v := (.complex .f32 a0 b0)) Try.isAgg57 rfl (Rd.of hb12 rfl) rfl) ?_
  refine L.v (o_cvCC (s := .f32) (d := .f64) (a := a0) (b := b0) (by rw [Try.underlying57]; rfl) Try.underlying61 rfl (okw a0) (okw b0)) ?_
  refine L.v (v := (.bool true)) (op_call [(.complex .f64 (cvt .f32 .f64 a0) (cvt .f32 .f64 b0)), (.complex .f64 (cvt .f32 .f64 a0) (cvt .f32 .f64 b0))] Try.call38 rfl (sameComplex_c (cvt .f32 .f64 a0) (cvt .f32 .f64 b0))) ?_
  refine L.v (o_not (b := true) (c := false) rfl rfl) ?_
  refine L.nil ?_
  refine W.condF (b := false) rfl rfl ?_
  refine W.skip ?_
  refine W.seq ?_
  refine W.seq ?_
  refine W.region ?_
  refine L.v (o_fieldAddr (b := b1) (off := 0) (o := 1) (run_fieldAt (f := 1) (fld := { name := "Phase", type := 24, offset := 1, embedded := false, tag := "", pkgPath := "", byteOffset := 8 }) Try.underlying82 rfl Try.sizeOf24 (Nat.succ_ne_zero _)) rfl) ?_
  refine L.v (o_load (b := b1) (off := 0 + 1) (v := (.float .f32 a1)) Try.isAgg24 rfl (Rd.of hb13 rfl) rfl) ?_
  refine L.v (o_cvFF (s := .f32) (d := .f64) (a := a1) (by rw [Try.underlying24]; rfl) Try.underlying30 rfl (okw a1)) ?_
  refine L.v (o_fieldAddr (b := b7) (off := 0) (o := 1) (run_fieldAt (f := 1) (fld := { name := "Phase", type := 24, offset := 1, embedded := false, tag := "", pkgPath := "", byteOffset := 8 }) Try.underlying82 rfl Try.sizeOf24 (Nat.succ_ne_zero _)) rfl) ?_
  refine L.v (o_load (b := b7) (off := 0 + 1) (v := (.float .f32 a1)) Try.isAgg24 rfl (Rd.of hb12 rfl) rfl) ?_
  refine L.v (o_cvFF (s := .f32) (d := .f64) (a := a1) (by rw [Try.underlying24]; rfl) Try.underlying30 rfl (okw a1)) ?_
  refine L.v (v := (.bool true)) (op_call [(.float .f64 (cvt .f32 .f64 a1)), (.float .f64 (cvt .f32 .f64 a1))] Try.call14 rfl (sameFloat_c (cvt .f32 .f64 a1))) ?_
  refine L.v (o_not (b := true) (c := false) rfl rfl) ?_
  refine L.nil ?_
  refine W.condF (b := false) rfl rfl ?_
  refine W.skip ?_
  refine W.seq ?_
  refine W.seq ?_
  refine W.region ?_
  refine L.v (o_fieldAddr (b := b1) (off := 0) (o := 2) (run_fieldAt (f := 2) (fld := { name := "Energy", type := 24, offset := 2, embedded := false, tag := "", pkgPath := "", byteOffset := 12 }) Try.underlying82 rfl Try.sizeOf24 (Nat.succ_ne_zero _)) rfl) ?_
  refine L.v (o_load (b := b1) (off := 0 + 2) (v := (.float .f32 a2)) Try.isAgg24 rfl (Rd.of hb13 rfl) rfl) ?_
  refine L.v (o_cvFF (s := .f32) (d := .f64) (a := a2) (by rw [Try.underlying24]; rfl) Try.underlying30 rfl (okw a2)) ?_
  refine L.v (o_fieldAddr (b := b7) (off := 0) (o := 2) (run_fieldAt (f := 2) (fld := { name := "Energy", type := 24, offset := 2, embedded := false, tag := "", pkgPath := "", byteOffset := 12 }) Try.underlying82 rfl Try.sizeOf24 (Nat.succ_ne_zero _)) rfl) ?_
  refine L.v (o_load (b := b7) (off := 0 + 2) (v := (.float .f32 a2)) Try.isAgg24 rfl (Rd.of hb12 rfl) rfl) ?_
  refine L.v (o_cvFF (s := .f32) (d := .f64) (a := a2) (by rw [Try.underlying24]; rfl) Try.underlying30 rfl (okw a2)) ?_
  refine L.v (v := (.bool true)) (op_call [(.float .f64 (cvt .f32 .f64 a2)), (.float .f64 (cvt .f32 .f64 a2))] Try.call14 rfl (sameFloat_c (cvt .f32 .f64 a2))) ?_
  refine L.v (o_not (b := true) (c := false) rfl rfl) ?_
  refine L.nil ?_
  refine W.condF (b := false) rfl rfl ?_
  refine W.skip ?_
  refine W.seq ?_
  refine W.region ?_
  refine L.v (o_assign (v := (.bool true)) rfl) ?_
  refine L.nil ?_
  refine W.ret ?_
  exact RetK.one σ (.bool true) rfl rfl ehx11 ⟨rfl, rfl⟩

theorem eqry {w0 : World} {σ : Sg} (p q : Option Addr) (c d : Nat) (xs : List (Nat × Nat × Nat × Nat)) (hs : Sl σ 3 p (xs.map ry)) (hq : Sl σ 3 q (xs.map ry)) (hn : xs.length ≤ 1048576) :
    FnV Try.prog w0 22 [(.slice p xs.length c), (.slice q xs.length d)] σ (.bool true) := by
  unfold FnV
  refine Fn.of_W 27 Try.func22 rfl Try.ntmps22 rfl ?_
  refine W.seq ?_
  refine W.region ?_
  refine L.v (o_assign (v := (.bool false)) rfl) ?_
  refine L.nil ?_
  refine W.seq ?_
  refine W.seq ?_
  refine W.region ?_
  refine L.v (o_move (v := (.slice p xs.length c)) rfl) ?_
  refine L.v (o_len (p := p) (n := xs.length) (c := c) Try.underlying38 rfl) ?_
  refine L.v (o_move (v := (.slice q xs.length d)) rfl) ?_
  refine L.v (o_len (p := q) (n := xs.length) (c := d) Try.underlying38 rfl) ?_
  refine L.v (o_ineq (a := (xs.length : Int)) (b := (xs.length : Int)) (c := false) rfl rfl (by simp)) ?_
  refine L.nil ?_
  refine W.condF (b := false) rfl rfl ?_
  refine W.skip ?_
  refine W.seq ?_
  refine W.seq ?_
  refine W.region ?_
  refine L.v (o_assign (v := (.int .i64 0)) rfl) ?_
  refine L.nil ?_
  refine W.block ?_
  refine W.loop (fun nn tt ss => ∃ (i : Nat), nn = xs.length - i ∧ (i ≤ xs.length) ∧ FrOk tt [(0, (.slice p xs.length c)), (1, (.slice q xs.length d)), (5, (.int .i64 (i : Int)))] ∧ σ = ss) _ ⟨0, rfl, (by omega), ⟨rfl, rfl, rfl, trivial⟩, rfl⟩ ?_
  rintro _ t1 _ ⟨i, rfl, hi, f2, rfl⟩
  rw [← frame_ok f2]
  show W _ _ _ _ _ (upd (upd (upd t1 0 (.slice p xs.length c)) 1 (.slice q xs.length d)) 5 (.int .i64 (i : Int))) _
  refine W.seq ?_
  refine W.seq ?_
  refine W.region ?_
  refine L.v (o_move (v := (.int .i64 (i : Int))) rfl) ?_
  refine L.v (o_move (v := (.slice p xs.length c)) rfl) ?_
  refine L.v (o_len (p := p) (n := xs.length) (c := c) Try.underlying38 rfl) ?_
  refine L.v (o_ilss (a := (i : Int)) (b := (xs.length : Int)) rfl rfl rfl) ?_
  refine L.nil ?_
  refine W.cond (b := decide (((i : Int) : Int) < (xs.length : Int))) rfl (fun q3 => ?_) (fun q3 => ?_)
  ·
    have a4 : ((i : Int) : Int) < (xs.length : Int) := of_decide_eq_true q3
    refine W.skip ?_
    refine W.seq ?_
    refine W.block ?_
    refine W.seq ?_
    obtain ⟨b5, o6, rfl, _⟩ := hs.elem i (by omega) (0, 0, 0, 0)
    obtain ⟨b7, o8, rfl, _⟩ := hq.elem i (by omega) (0, 0, 0, 0)
    refine W.draw [true, true, true, true, true, true, true, true, true, true] (fun s => Ext σ s) (by kernel_rfl) (by kernel_rfl) ?_
    refine DL.v (fun _ hD => o_move (v := (.slice (some ⟨b5, o6, none⟩) xs.length c)) rfl) ?_
    refine DL.v (fun _ hD => o_move (v := (.int .i64 (i : Int))) rfl) ?_
    refine DL.v (fun _ hD => o_indexAddr (b := b5) (off := o6) (n := xs.length) (c := c) i Try.underlying38 Try.sizeOf82 rfl rfl (by omega)) ?_
    refine DL.v (fun _ hD => o_loads (b := b5) (off := o6 + i * 3) (vs := [(.complex .f32 ((xs.getD i (0, 0, 0, 0)).1) ((xs.getD i (0, 0, 0, 0)).2.1)), (.float .f32 ((xs.getD i (0, 0, 0, 0)).2.2.1)), (.float .f32 ((xs.getD i (0, 0, 0, 0)).2.2.2))]) Try.isAgg82 Try.sizeOf82 rfl rfl (Sl.at (Sl.ext hs hD) i (by omega) (0, 0, 0, 0))) ?_
    refine DL.v (fun _ hD => o_move (v := (.slice (some ⟨b7, o8, none⟩) xs.length d)) rfl) ?_
    refine DL.v (fun _ hD => o_move (v := (.int .i64 (i : Int))) rfl) ?_
    refine DL.v (fun _ hD => o_indexAddr (b := b7) (off := o8) (n := xs.length) (c := d) i Try.underlying38 Try.sizeOf82 rfl rfl (by omega)) ?_
    refine DL.v (fun _ hD => o_loads (b := b7) (off := o8 + i * 3) (vs := [(.complex .f32 ((xs.getD i (0, 0, 0, 0)).1) ((xs.getD i (0, 0, 0, 0)).2.1)), (.float .f32 ((xs.getD i (0, 0, 0, 0)).2.2.1)), (.float .f32 ((xs.getD i (0, 0, 0, 0)).2.2.2))]) Try.isAgg82 Try.sizeOf82 rfl rfl (Sl.at (Sl.ext hq hD) i (by omega) (0, 0, 0, 0))) ?_
    refine DL.v (v := (.bool true)) (fun _ hD => op_call [(.agg #[(.complex .f32 ((xs.getD i (0, 0, 0, 0)).1) ((xs.getD i (0, 0, 0, 0)).2.1)), (.float .f32 ((xs.getD i (0, 0, 0, 0)).2.2.1)), (.float .f32 ((xs.getD i (0, 0, 0, 0)).2.2.2))]), (.agg #[(.complex .f32 ((xs.getD i (0, 0, 0, 0)).1) ((xs.getD i (0, 0, 0, 0)).2.1)), (.float .f32 ((xs.getD i (0, 0, 0, 0)).2.2.1)), (.float .f32 ((xs.getD i (0, 0, 0, 0)).2.2.2))])] Try.call56 rfl (eqRay_c ((xs.getD i (0, 0, 0, 0)).1) ((xs.getD i (0, 0, 0, 0)).2.1) ((xs.getD i (0, 0, 0, 0)).2.2.1) ((xs.getD i (0, 0, 0, 0)).2.2.2))) ?_
    refine DL.v (fun _ hD => o_not (b := true) (c := false) rfl rfl) ?_
    refine DL.nil (Ext.refl _) ?_
    refine W.condF (b := false) rfl rfl ?_
    refine W.skip ?_
    refine W.region ?_
    refine L.v (o_move (v := (.int .i64 (i : Int))) rfl) ?_
    refine L.v (o_iadd (a := (i : Int)) (b := 1) (c := ((i + 1 : Nat) : Int)) rfl rfl (by rw [IntWalk.i64_in _ (by omega)]; try omega)) ?_
    refine L.v (o_assign (v := (.int .i64 (((i + 1 : Nat) : Int)))) rfl) ?_
    refine L.nil ?_
    exact ⟨_, (by omega), i + 1, rfl, (by omega), ⟨rfl, rfl, rfl, trivial⟩, rfl⟩
  ·
    have a9 : ¬ (((i : Int) : Int) < (xs.length : Int)) := of_decide_eq_false q3
    refine W.exit ?_
    refine W.seq ?_
    refine W.region ?_
    refine L.v (o_assign (v := (.bool true)) rfl) ?_
    refine L.nil ?_
    refine W.ret ?_
    exact RetK.one σ (.bool true) rfl rfl (Ext.refl _) ⟨by first | rfl | (exfalso; omega) | (exact absurd rfl (by assumption)), rfl⟩

theorem markryB {w0 : World} {σ : Sg} (b e n c : Nat) (cs0 : List Value) (k : Int) (hb : σ b = some (e, cs0)) (hw : w0.heap.size ≤ b) (hn : n * 3 ≤ cs0.length) (hm : n ≤ 1048576) (hk : 0 ≤ k ∧ k ≤ 1099511627776) :
    Fn Try.prog w0 23 [(.slice (some ⟨b, 0, none⟩) n c), (.int .i64 k)] σ (fun u s => u = .int .i64 (k + 3 * (n : Int)) ∧ ∃ cs, s = sg σ b (e, cs) ∧ FillR ((mkry k n).map ry) 3 cs ((mkry k n).map ry).length) := by
  refine Fn.of_W 39 Try.func23 rfl Try.ntmps23 rfl ?_
  refine W.seq ?_
  refine W.region ?_
  refine L.v (o_assign (v := (.int .i64 0)) rfl) ?_
  refine L.nil ?_
  refine W.seq ?_
  refine W.seq ?_
  refine W.region ?_
  refine L.v (o_assign (v := (.int .i64 0)) rfl) ?_
  refine L.nil ?_
  refine W.block ?_
  refine W.loop (fun nn tt ss => ∃ (i : Nat), ∃ (cs : List Value), nn = n - i ∧ (i ≤ n) ∧ (FillR ((mkry k n).map ry) 3 cs i) ∧ FrOk tt [(0, (.slice (some ⟨b, 0, none⟩) n c)), (1, (.int .i64 (k + 3 * (i : Int)))), (5, (.int .i64 (i : Int)))] ∧ sg σ b (e, cs) = ss) _ ⟨0, cs0, rfl, (by omega), (FillR.zero (by rw [List.length_map, mkry_len]; omega)), ⟨rfl, (by show Value.int .i64 k = _; simp), rfl, trivial⟩, sg_same hb⟩ ?_
  rintro _ t1 _ ⟨i, cs, rfl, hi, hfl, f2, rfl⟩
  rw [← frame_ok f2]
  show W _ _ _ _ _ (upd (upd (upd t1 0 (.slice (some ⟨b, 0, none⟩) n c)) 1 (.int .i64 (k + 3 * (i : Int)))) 5 (.int .i64 (i : Int))) _
  refine W.seq ?_
  refine W.seq ?_
  refine W.region ?_
  refine L.v (o_move (v := (.int .i64 (i : Int))) rfl) ?_
  refine L.v (o_move (v := (.slice (some ⟨b, 0, none⟩) n c)) rfl) ?_
  refine L.v (o_len (p := (some ⟨b, 0, none⟩)) (n := n) (c := c) Try.underlying38 rfl) ?_
  refine L.v (o_ilss (a := (i : Int)) (b := (n : Int)) rfl rfl rfl) ?_
  refine L.nil ?_
  refine W.cond (b := decide (((i : Int) : Int) < (n : Int))) rfl (fun q3 => ?_) (fun q3 => ?_)
  ·
    have a4 : ((i : Int) : Int) < (n : Int) := of_decide_eq_true q3
    refine W.skip ?_
    refine W.seq ?_
    refine W.block ?_
    refine W.seq ?_
    refine W.region ?_
    refine L.v (o_move (v := (.slice (some ⟨b, 0, none⟩) n c)) rfl) ?_
    refine L.v (o_move (v := (.int .i64 (i : Int))) rfl) ?_
    refine L.v (o_move (v := (.int .i64 (k + 3 * (i : Int)))) rfl) ?_
    refine L.v (o_cvIF (a := k + 3 * (i : Int)) (by rw [Try.underlying3]; rfl) Try.underlying30 rfl) ?_
    refine L.v (o_complex (k := .f64) (a := FloatKind.nearest .f64 (k + 3 * (i : Int))) (b := 4607182418800017408) rfl rfl) ?_
    refine L.v (o_cvCC (s := .f64) (d := .f32) (a := FloatKind.nearest .f64 (k + 3 * (i : Int))) (b := 4607182418800017408) (by rw [Try.underlying61]; rfl) Try.underlying57 rfl (mark_ok (by omega)) (by decide +kernel)) ?_
    refine L.v (o_indexAddr (b := b) (off := 0) (n := n) (c := c) i Try.underlying38 Try.sizeOf82 rfl rfl (by omega)) ?_
    refine L.v (o_fieldAddr (b := b) (off := 0 + i * 3) (o := 0) (run_fieldAt (f := 0) (fld := { name := "At", type := 57, offset := 0, embedded := false, tag := "", pkgPath := "", byteOffset := 0 }) Try.underlying82 rfl Try.sizeOf57 (Nat.succ_ne_zero _)) rfl) ?_
    refine L.cons0 (o_store (b := b) (off := 0 + i * 3 + 0) (v := (.complex .f32 (cvt .f64 .f32 (FloatKind.nearest .f64 (k + 3 * (i : Int)))) (cvt .f64 .f32 4607182418800017408))) Try.sizeOf57 rfl rfl rfl (sg_eq _ _ _) (by have := hfl.1; rw [List.length_map, mkry_len] at this; (try simp only [List.length_set]); omega) hw) ?_
    rintro _ _ ⟨rfl, rfl⟩
    rw [sg_sg, show 0 + i * 3 + 0 = i * 3 by omega]
    refine L.nil ?_
    refine W.seq ?_
    refine W.region ?_
    refine L.v (o_move (v := (.int .i64 (k + 3 * (i : Int)))) rfl) ?_
    refine L.v (o_iadd (a := k + 3 * (i : Int)) (b := 1) (c := k + 3 * (i : Int) + 1) rfl rfl (by rw [IntWalk.i64_in _ (by omega)]; try (push_cast; omega))) ?_
    refine L.v (o_assign (v := (.int .i64 (k + 3 * (i : Int) + 1))) rfl) ?_
    refine L.nil ?_
    refine W.seq ?_
    refine W.region ?_
    refine L.v (o_move (v := (.slice (some ⟨b, 0, none⟩) n c)) rfl) ?_
    refine L.v (o_move (v := (.int .i64 (i : Int))) rfl) ?_
    refine L.v (o_move (v := (.int .i64 (k + 3 * (i : Int) + 1))) rfl) ?_
    refine L.v (o_cvIF (a := k + 3 * (i : Int) + 1) (by rw [Try.underlying3]; rfl) Try.underlying24 rfl) ?_
    refine L.v (o_indexAddr (b := b) (off := 0) (n := n) (c := c) i Try.underlying38 Try.sizeOf82 rfl rfl (by omega)) ?_
    refine L.v (o_fieldAddr (b := b) (off := 0 + i * 3) (o := 1) (run_fieldAt (f := 1) (fld := { name := "Phase", type := 24, offset := 1, embedded := false, tag := "", pkgPath := "", byteOffset := 8 }) Try.underlying82 rfl Try.sizeOf24 (Nat.succ_ne_zero _)) rfl) ?_
    refine L.cons0 (o_store (b := b) (off := 0 + i * 3 + 1) (v := (.float .f32 (FloatKind.nearest .f32 (k + 3 * (i : Int) + 1)))) Try.sizeOf24 rfl rfl rfl (sg_eq _ _ _) (by have := hfl.1; rw [List.length_map, mkry_len] at this; (try simp only [List.length_set]); omega) hw) ?_
    rintro _ _ ⟨rfl, rfl⟩
    rw [sg_sg, show 0 + i * 3 + 1 = i * 3 + 1 by omega]
    refine L.nil ?_
    refine W.seq ?_
    refine W.region ?_
    refine L.v (o_move (v := (.int .i64 (k + 3 * (i : Int) + 1))) rfl) ?_
    refine L.v (o_iadd (a := k + 3 * (i : Int) + 1) (b := 1) (c := k + 3 * (i : Int) + 2) rfl rfl (by rw [IntWalk.i64_in _ (by omega)]; try (push_cast; omega))) ?_
    refine L.v (o_assign (v := (.int .i64 (k + 3 * (i : Int) + 2))) rfl) ?_
    refine L.nil ?_
    refine W.seq ?_
    refine W.region ?_
    refine L.v (o_move (v := (.slice (some ⟨b, 0, none⟩) n c)) rfl) ?_
    refine L.v (o_move (v := (.int .i64 (i : Int))) rfl) ?_
    refine L.v (o_move (v := (.int .i64 (k + 3 * (i : Int) + 2))) rfl) ?_
    refine L.v (o_cvIF (a := k + 3 * (i : Int) + 2) (by rw [Try.underlying3]; rfl) Try.underlying24 rfl) ?_
    refine L.v (o_indexAddr (b := b) (off := 0) (n := n) (c := c) i Try.underlying38 Try.sizeOf82 rfl rfl (by omega)) ?_
    refine L.v (o_fieldAddr (b := b) (off := 0 + i * 3) (o := 2) (run_fieldAt (f := 2) (fld := { name := "Energy", type := 24, offset := 2, embedded := false, tag := "", pkgPath := "", byteOffset := 12 }) Try.underlying82 rfl Try.sizeOf24 (Nat.succ_ne_zero _)) rfl) ?_
    refine L.cons0 (o_store (b := b) (off := 0 + i * 3 + 2) (v := (.float .f32 (FloatKind.nearest .f32 (k + 3 * (i : Int) + 2)))) Try.sizeOf24 rfl rfl rfl (sg_eq _ _ _) (by have := hfl.1; rw [List.length_map, mkry_len] at this; (try simp only [List.length_set]); omega) hw) ?_
    rintro _ _ ⟨rfl, rfl⟩
    rw [sg_sg, show 0 + i * 3 + 2 = i * 3 + 2 by omega]
    refine L.nil ?_
    refine W.region ?_
    refine L.v (o_move (v := (.int .i64 (k + 3 * (i : Int) + 2))) rfl) ?_
    refine L.v (o_iadd (a := k + 3 * (i : Int) + 2) (b := 1) (c := k + 3 * ((i + 1 : Nat) : Int)) rfl rfl (by rw [IntWalk.i64_in _ (by omega)]; try (push_cast; omega))) ?_
    refine L.v (o_assign (v := (.int .i64 (k + 3 * ((i + 1 : Nat) : Int)))) rfl) ?_
    refine L.nil ?_
    refine W.region ?_
    refine L.v (o_move (v := (.int .i64 (i : Int))) rfl) ?_
    refine L.v (o_iadd (a := (i : Int)) (b := 1) (c := ((i + 1 : Nat) : Int)) rfl rfl (by rw [IntWalk.i64_in _ (by omega)]; try (push_cast; omega))) ?_
    refine L.v (o_assign (v := (.int .i64 (((i + 1 : Nat) : Int)))) rfl) ?_
    refine L.nil ?_
    exact ⟨_, (by omega), i + 1, (((cs).set (i * 3) (.complex .f32 (cvt .f64 .f32 (FloatKind.nearest .f64 (k + 3 * (i : Int)))) (cvt .f64 .f32 4607182418800017408))).set (i * 3 + 1) (.float .f32 (FloatKind.nearest .f32 (k + 3 * (i : Int) + 1)))).set (i * 3 + 2) (.float .f32 (FloatKind.nearest .f32 (k + 3 * (i : Int) + 2))), rfl, (by omega), (FillR.step hfl (mkry_get (by omega)) (ry_all _)), ⟨rfl, rfl, rfl, trivial⟩, rfl⟩
  ·
    have a5 : ¬ (((i : Int) : Int) < (n : Int)) := of_decide_eq_false q3
    refine W.exit ?_
    refine W.seq ?_
    refine W.region ?_
    refine L.v (o_move (v := (.int .i64 (k + 3 * (i : Int)))) rfl) ?_
    refine L.v (o_assign (v := (.int .i64 (k + 3 * (i : Int)))) rfl) ?_
    refine L.nil ?_
    refine W.ret ?_
    obtain rfl : i = n := by omega
    exact RetK.one _ (.int .i64 (k + 3 * (i : Int))) rfl rfl (Ext.refl _) ⟨rfl, cs, rfl, by rw [List.length_map, mkry_len]; exact hfl⟩

theorem markryE {w0 : World} {σ : Sg} (p : Option Addr) (c : Nat) (k : Int) :
    Fn Try.prog w0 23 [(.slice p 0 c), (.int .i64 k)] σ (fun u s => u = .int .i64 (k + 3 * ((0 : Nat) : Int)) ∧ s = σ) := by
  refine Fn.of_W 39 Try.func23 rfl Try.ntmps23 rfl ?_
  refine W.seq ?_
  refine W.region ?_
  refine L.v (o_assign (v := (.int .i64 0)) rfl) ?_
  refine L.nil ?_
  refine W.seq ?_
  refine W.seq ?_
  refine W.region ?_
  refine L.v (o_assign (v := (.int .i64 0)) rfl) ?_
  refine L.nil ?_
  refine W.block ?_
  refine W.loop (fun nn tt ss => ∃ (i : Nat), nn = 0 ∧ (i = 0) ∧ FrOk tt [(0, (.slice p 0 c)), (1, (.int .i64 k)), (5, (.int .i64 (i : Int)))] ∧ σ = ss) _ ⟨0, rfl, (by omega), ⟨rfl, rfl, rfl, trivial⟩, rfl⟩ ?_
  rintro _ t1 _ ⟨i, rfl, hi, f2, rfl⟩
  rw [← frame_ok f2]
  show W _ _ _ _ _ (upd (upd (upd t1 0 (.slice p 0 c)) 1 (.int .i64 k)) 5 (.int .i64 (i : Int))) _
  refine W.seq ?_
  refine W.seq ?_
  refine W.region ?_
  refine L.v (o_move (v := (.int .i64 (i : Int))) rfl) ?_
  refine L.v (o_move (v := (.slice p 0 c)) rfl) ?_
  refine L.v (o_len (p := p) (n := 0) (c := c) Try.underlying38 rfl) ?_
  refine L.v (o_ilss (a := (i : Int)) (b := 0) rfl rfl rfl) ?_
  refine L.nil ?_
  refine W.cond (b := decide (((i : Int) : Int) < 0)) rfl (fun q3 => ?_) (fun q3 => ?_)
  ·
    have a4 : ((i : Int) : Int) < 0 := of_decide_eq_true q3
    exact absurd (of_decide_eq_true q3) (by omega)
  ·
    have a5 : ¬ (((i : Int) : Int) < 0) := of_decide_eq_false q3
    refine W.exit ?_
    refine W.seq ?_
    refine W.region ?_
    refine L.v (o_move (v := (.int .i64 k)) rfl) ?_
    refine L.v (o_assign (v := (.int .i64 k)) rfl) ?_
    refine L.nil ?_
    refine W.ret ?_
    exact RetK.one _ (.int .i64 k) rfl rfl (Ext.refl _) ⟨by simp, rfl⟩

theorem markry {w0 : World} {σ : Sg} (p : Option Addr) (n c : Nat) (k : Int) (ho : Mut w0 σ (n * 3) p) (hm : n ≤ 1048576) (hk : 0 ≤ k ∧ k ≤ 1099511627776) :
    Fn Try.prog w0 23 [.slice p n c, .int .i64 k] σ (fun u s => u = .int .i64 (k + 3 * (n : Int)) ∧ Mkd σ s n p ∧ Sl s 3 p ((mkry k n).map ry)) := by
  by_cases h0 : n = 0
  · subst h0
    exact (markryE p c k).mono fun u s ⟨h1, h2⟩ => ⟨h1, .inl ⟨rfl, h2⟩, .inl rfl⟩
  · rcases ho with ho | ⟨b, e, cs, rfl, hw, hb, hl⟩
    · exact absurd ho (by omega)
    · refine (markryB b e n c cs k hb hw hl hm hk).mono fun u s ⟨h1, cs', h2, h3⟩ => ⟨h1, .inr ⟨h0, b, rfl, ?_⟩, ?_⟩
      · rw [h2]; exact But.sg
      · exact FillR.sl h3 (by rw [h2]; exact sg_eq _ _ _)

theorem heldry {w0 : World} {σ : Sg} (p : Option Addr) (n c : Nat) (k : Int) (hs : Sl σ 3 p ((mkry k n).map ry)) (hm : n ≤ 1048576) (hk : 0 ≤ k ∧ k ≤ 1099511627776) :
    FnV Try.prog w0 24 [(.slice p n c), (.int .i64 k)] σ (.int .i64 (k + 3 * (n : Int))) := by
  unfold FnV
  refine Fn.of_W 45 Try.func24 rfl Try.ntmps24 rfl ?_
  refine W.seq ?_
  refine W.region ?_
  refine L.v (o_assign (v := (.int .i64 0)) rfl) ?_
  refine L.nil ?_
  refine W.seq ?_
  refine W.seq ?_
  refine W.region ?_
  refine L.v (o_assign (v := (.int .i64 0)) rfl) ?_
  refine L.nil ?_
  refine W.block ?_
  refine W.loop (fun nn tt ss => ∃ (i : Nat), nn = n - i ∧ (i ≤ n) ∧ FrOk tt [(0, (.slice p n c)), (1, (.int .i64 (k + 3 * (i : Int)))), (5, (.int .i64 (i : Int)))] ∧ σ = ss) _ ⟨0, rfl, (by omega), ⟨rfl, (by show Value.int .i64 k = _; simp), rfl, trivial⟩, rfl⟩ ?_
  rintro _ t1 _ ⟨i, rfl, hi, f2, rfl⟩
  rw [← frame_ok f2]
  show W _ _ _ _ _ (upd (upd (upd t1 0 (.slice p n c)) 1 (.int .i64 (k + 3 * (i : Int)))) 5 (.int .i64 (i : Int))) _
  refine W.seq ?_
  refine W.seq ?_
  refine W.region ?_
  refine L.v (o_move (v := (.int .i64 (i : Int))) rfl) ?_
  refine L.v (o_move (v := (.slice p n c)) rfl) ?_
  refine L.v (o_len (p := p) (n := n) (c := c) Try.underlying38 rfl) ?_
  refine L.v (o_ilss (a := (i : Int)) (b := (n : Int)) rfl rfl rfl) ?_
  refine L.nil ?_
  refine W.cond (b := decide (((i : Int) : Int) < (n : Int))) rfl (fun q3 => ?_) (fun q3 => ?_)
  ·
    have a4 : ((i : Int) : Int) < (n : Int) := of_decide_eq_true q3
    refine W.skip ?_
    refine W.seq ?_
    refine W.block ?_
    refine W.seq ?_
    refine W.seq ?_
    obtain ⟨b5, o6, rfl, _⟩ := hs.get (mkry_get (k := k) (n := n) (i := i) (by omega))
    refine W.region ?_
    refine L.v (o_move (v := (.slice (some ⟨b5, o6, none⟩) n c)) rfl) ?_
    refine L.v (o_move (v := (.int .i64 (i : Int))) rfl) ?_
    refine L.v (o_indexAddr (b := b5) (off := o6) (n := n) (c := c) i Try.underlying38 Try.sizeOf82 rfl rfl (by omega)) ?_
    refine L.v (o_fieldAddr (b := b5) (off := o6 + i * 3) (o := 0) (run_fieldAt (f := 0) (fld := { name := "At", type := 57, offset := 0, embedded := false, tag := "", pkgPath := "", byteOffset := 0 }) Try.underlying82 rfl Try.sizeOf57 (Nat.succ_ne_zero _)) rfl) ?_
    refine L.v (o_load (b := b5) (off := o6 + i * 3 + 0) (v := (.complex .f32 (cvt .f64 .f32 (FloatKind.nearest .f64 (k + 3 * (i : Int)))) (cvt .f64 .f32 4607182418800017408))) Try.isAgg57 rfl (Sl.mkry hs (by omega) 0 _ rfl) rfl) ?_
    refine L.v (o_move (v := (.int .i64 (k + 3 * (i : Int)))) rfl) ?_
    refine L.v (o_cvIF (a := k + 3 * (i : Int)) (by rw [Try.underlying3]; rfl) Try.underlying30 rfl) ?_
    refine L.v (o_complex (k := .f64) (a := FloatKind.nearest .f64 (k + 3 * (i : Int))) (b := 4607182418800017408) rfl rfl) ?_
    refine L.v (o_cvCC (s := .f64) (d := .f32) (a := FloatKind.nearest .f64 (k + 3 * (i : Int))) (b := 4607182418800017408) (by rw [Try.underlying61]; rfl) Try.underlying57 rfl (mark_ok (by omega)) (by decide +kernel)) ?_
    refine L.v (o_cneq (k := .f32) (a := cvt .f64 .f32 (FloatKind.nearest .f64 (k + 3 * (i : Int)))) (b := cvt .f64 .f32 4607182418800017408) (c := cvt .f64 .f32 (FloatKind.nearest .f64 (k + 3 * (i : Int)))) (d := cvt .f64 .f32 4607182418800017408) rfl rfl rfl) ?_
    refine L.nil ?_
    refine W.condF (b := !(fcmp .eql .f32 (cvt .f64 .f32 (FloatKind.nearest .f64 (k + 3 * (i : Int)))) (cvt .f64 .f32 (FloatKind.nearest .f64 (k + 3 * (i : Int)))) && fcmp .eql .f32 (cvt .f64 .f32 4607182418800017408) (cvt .f64 .f32 4607182418800017408))) rfl (cneq_self (mark_num (by omega)) one_num) ?_
    refine W.skip ?_
    refine W.seq ?_
    refine W.region ?_
    refine L.v (o_move (v := (.int .i64 (k + 3 * (i : Int)))) rfl) ?_
    refine L.v (o_iadd (a := k + 3 * (i : Int)) (b := 1) (c := k + 3 * (i : Int) + 1) rfl rfl (by rw [IntWalk.i64_in _ (by omega)]; try (push_cast; omega))) ?_
    refine L.v (o_assign (v := (.int .i64 (k + 3 * (i : Int) + 1))) rfl) ?_
    refine L.nil ?_
    refine W.seq ?_
    refine W.seq ?_
    refine W.region ?_
    refine L.v (o_move (v := (.slice (some ⟨b5, o6, none⟩) n c)) rfl) ?_
    refine L.v (o_move (v := (.int .i64 (i : Int))) rfl) ?_
    refine L.v (o_indexAddr (b := b5) (off := o6) (n := n) (c := c) i Try.underlying38 Try.sizeOf82 rfl rfl (by omega)) ?_
    refine L.v (o_fieldAddr (b := b5) (off := o6 + i * 3) (o := 1) (run_fieldAt (f := 1) (fld := { name := "Phase", type := 24, offset := 1, embedded := false, tag := "", pkgPath := "", byteOffset := 8 }) Try.underlying82 rfl Try.sizeOf24 (Nat.succ_ne_zero _)) rfl) ?_
    refine L.v (o_load (b := b5) (off := o6 + i * 3 + 1) (v := (.float .f32 (FloatKind.nearest .f32 (k + 3 * (i : Int) + 1)))) Try.isAgg24 rfl (Sl.mkry hs (by omega) 1 _ rfl) rfl) ?_
    refine L.v (o_move (v := (.int .i64 (k + 3 * (i : Int) + 1))) rfl) ?_
    refine L.v (o_cvIF (a := k + 3 * (i : Int) + 1) (by rw [Try.underlying3]; rfl) Try.underlying24 rfl) ?_
    refine L.v (o_fcmp (k := .f32) (a := FloatKind.nearest .f32 (k + 3 * (i : Int) + 1)) (b := FloatKind.nearest .f32 (k + 3 * (i : Int) + 1)) rfl rfl rfl rfl) ?_
    refine L.nil ?_
    refine W.condF (b := fcmp .neq .f32 (FloatKind.nearest .f32 (k + 3 * (i : Int) + 1)) (FloatKind.nearest .f32 (k + 3 * (i : Int) + 1))) rfl (fcmp_neq_self (k := .f32) (a := FloatKind.nearest .f32 (k + 3 * (i : Int) + 1)) (nearest_num .f32 (k + 3 * (i : Int) + 1))) ?_
    refine W.skip ?_
    refine W.seq ?_
    refine W.region ?_
    refine L.v (o_move (v := (.int .i64 (k + 3 * (i : Int) + 1))) rfl) ?_
    refine L.v (o_iadd (a := k + 3 * (i : Int) + 1) (b := 1) (c := k + 3 * (i : Int) + 2) rfl rfl (by rw [IntWalk.i64_in _ (by omega)]; try (push_cast; omega))) ?_
    refine L.v (o_assign (v := (.int .i64 (k + 3 * (i : Int) + 2))) rfl) ?_
    refine L.nil ?_
    refine W.seq ?_
    refine W.seq ?_
    refine W.region ?_
    refine L.v (o_move (v := (.slice (some ⟨b5, o6, none⟩) n c)) rfl) ?_
    refine L.v (o_move (v := (.int .i64 (i : Int))) rfl) ?_
    refine L.v (o_indexAddr (b := b5) (off := o6) (n := n) (c := c) i Try.underlying38 Try.sizeOf82 rfl rfl (by omega)) ?_
    refine L.v (o_fieldAddr (b := b5) (off := o6 + i * 3) (o := 2) (run_fieldAt (f := 2) (fld := { name := "Energy", type := 24, offset := 2, embedded := false, tag := "", pkgPath := "", byteOffset := 12 }) Try.underlying82 rfl Try.sizeOf24 (Nat.succ_ne_zero _)) rfl) ?_
    refine L.v (o_load (b := b5) (off := o6 + i * 3 + 2) (v := (.float .f32 (FloatKind.nearest .f32 (k + 3 * (i : Int) + 2)))) Try.isAgg24 rfl (Sl.mkry hs (by omega) 2 _ rfl) rfl) ?_
    refine L.v (o_move (v := (.int .i64 (k + 3 * (i : Int) + 2))) rfl) ?_
    refine L.v (o_cvIF (a := k + 3 * (i : Int) + 2) (by rw [Try.underlying3]; rfl) Try.underlying24 rfl) ?_
    refine L.v (o_fcmp (k := .f32) (a := FloatKind.nearest .f32 (k + 3 * (i : Int) + 2)) (b := FloatKind.nearest .f32 (k + 3 * (i : Int) + 2)) rfl rfl rfl rfl) ?_
    refine L.nil ?_
    refine W.condF (b := fcmp .neq .f32 (FloatKind.nearest .f32 (k + 3 * (i : Int) + 2)) (FloatKind.nearest .f32 (k + 3 * (i : Int) + 2))) rfl (fcmp_neq_self (k := .f32) (a := FloatKind.nearest .f32 (k + 3 * (i : Int) + 2)) (nearest_num .f32 (k + 3 * (i : Int) + 2))) ?_
    refine W.skip ?_
    refine W.region ?_
    refine L.v (o_move (v := (.int .i64 (k + 3 * (i : Int) + 2))) rfl) ?_
    refine L.v (o_iadd (a := k + 3 * (i : Int) + 2) (b := 1) (c := k + 3 * ((i + 1 : Nat) : Int)) rfl rfl (by rw [IntWalk.i64_in _ (by omega)]; try (push_cast; omega))) ?_
    refine L.v (o_assign (v := (.int .i64 (k + 3 * ((i + 1 : Nat) : Int)))) rfl) ?_
    refine L.nil ?_
    refine W.region ?_
    refine L.v (o_move (v := (.int .i64 (i : Int))) rfl) ?_
    refine L.v (o_iadd (a := (i : Int)) (b := 1) (c := ((i + 1 : Nat) : Int)) rfl rfl (by rw [IntWalk.i64_in _ (by omega)]; try (push_cast; omega))) ?_
    refine L.v (o_assign (v := (.int .i64 (((i + 1 : Nat) : Int)))) rfl) ?_
    refine L.nil ?_
    exact ⟨_, (by omega), i + 1, rfl, (by omega), ⟨rfl, rfl, rfl, trivial⟩, rfl⟩
  ·
    have a7 : ¬ (((i : Int) : Int) < (n : Int)) := of_decide_eq_false q3
    refine W.exit ?_
    refine W.seq ?_
    refine W.region ?_
    refine L.v (o_move (v := (.int .i64 (k + 3 * (i : Int)))) rfl) ?_
    refine L.v (o_assign (v := (.int .i64 (k + 3 * (i : Int)))) rfl) ?_
    refine L.nil ?_
    refine W.ret ?_
    obtain rfl : i = n := by omega
    exact RetK.one σ (.int .i64 (k + 3 * (i : Int))) rfl rfl (Ext.refl _) ⟨rfl, rfl⟩

theorem eqcx {w0 : World} {σ : Sg} (p q : Option Addr) (c d : Nat) (xs : List (Nat × Nat)) (hs : Sl σ 1 p (xs.map cx)) (hq : Sl σ 1 q (xs.map cx)) (hn : xs.length ≤ 1048576) :
    FnV Try.prog w0 33 [(.slice p xs.length c), (.slice q xs.length d)] σ (.bool true) := by
  unfold FnV
  refine Fn.of_W 29 Try.func33 rfl Try.ntmps33 rfl ?_
  refine W.seq ?_
  refine W.region ?_
  refine L.v (o_assign (v := (.bool false)) rfl) ?_
  refine L.nil ?_
  refine W.seq ?_
  refine W.seq ?_
  refine W.region ?_
  refine L.v (o_move (v := (.slice p xs.length c)) rfl) ?_
  refine L.v (o_len (p := p) (n := xs.length) (c := c) Try.underlying50 rfl) ?_
  refine L.v (o_move (v := (.slice q xs.length d)) rfl) ?_
  refine L.v (o_len (p := q) (n := xs.length) (c := d) Try.underlying50 rfl) ?_
  refine L.v (o_ineq (a := (xs.length : Int)) (b := (xs.length : Int)) (c := false) rfl rfl (by simp)) ?_
  refine L.nil ?_
  refine W.condF (b := false) rfl rfl ?_
  refine W.skip ?_
  refine W.seq ?_
  refine W.seq ?_
  refine W.region ?_
  refine L.v (o_assign (v := (.int .i64 0)) rfl) ?_
  refine L.nil ?_
  refine W.block ?_
  refine W.loop (fun nn tt ss => ∃ (i : Nat), nn = xs.length - i ∧ (i ≤ xs.length) ∧ FrOk tt [(0, (.slice p xs.length c)), (1, (.slice q xs.length d)), (5, (.int .i64 (i : Int)))] ∧ σ = ss) _ ⟨0, rfl, (by omega), ⟨rfl, rfl, rfl, trivial⟩, rfl⟩ ?_
  rintro _ t1 _ ⟨i, rfl, hi, f2, rfl⟩
  rw [← frame_ok f2]
  show W _ _ _ _ _ (upd (upd (upd t1 0 (.slice p xs.length c)) 1 (.slice q xs.length d)) 5 (.int .i64 (i : Int))) _
  refine W.seq ?_
  refine W.seq ?_
  refine W.region ?_
  refine L.v (o_move (v := (.int .i64 (i : Int))) rfl) ?_
  refine L.v (o_move (v := (.slice p xs.length c)) rfl) ?_
  refine L.v (o_len (p := p) (n := xs.length) (c := c) Try.underlying50 rfl) ?_
  refine L.v (o_ilss (a := (i : Int)) (b := (xs.length : Int)) rfl rfl rfl) ?_
  refine L.nil ?_
  refine W.cond (b := decide (((i : Int) : Int) < (xs.length : Int))) rfl (fun q3 => ?_) (fun q3 => ?_)
  ·
    have a4 : ((i : Int) : Int) < (xs.length : Int) := of_decide_eq_true q3
    refine W.skip ?_
    refine W.seq ?_
    refine W.block ?_
    refine W.seq ?_
    obtain ⟨b5, o6, rfl, _⟩ := hs.elem i (by omega) (0, 0)
    obtain ⟨b7, o8, rfl, _⟩ := hq.elem i (by omega) (0, 0)
    refine W.draw [true, true, true, true, true, true, true, true, true, true, true, true] (fun s => Ext σ s) (by kernel_rfl) (by kernel_rfl) ?_
    refine DL.v (fun _ hD => o_move (v := (.slice (some ⟨b5, o6, none⟩) xs.length c)) rfl) ?_
    refine DL.v (fun _ hD => o_move (v := (.int .i64 (i : Int))) rfl) ?_
    refine DL.v (fun _ hD => o_indexAddr (b := b5) (off := o6) (n := xs.length) (c := c) i Try.underlying50 Try.sizeOf57 rfl rfl (by omega)) ?_
    refine DL.v (fun _ hD => o_load (b := b5) (off := o6 + i * 1) (v := (.complex .f32 ((xs.getD i (0, 0)).1) ((xs.getD i (0, 0)).2))) Try.isAgg57 rfl (Sl.at (Sl.ext hs hD) i (by omega) (0, 0) 0 _ rfl) rfl) ?_
    refine DL.v (fun _ hD => o_cvCC (s := .f32) (d := .f64) (a := (xs.getD i (0, 0)).1) (b := (xs.getD i (0, 0)).2) (by rw [Try.underlying57]; rfl) Try.underlying61 rfl (okw ((xs.getD i (0, 0)).1)) (okw ((xs.getD i (0, 0)).2))) ?_
    refine DL.v (fun _ hD => o_move (v := (.slice (some ⟨b7, o8, none⟩) xs.length d)) rfl) ?_
    refine DL.v (fun _ hD => o_move (v := (.int .i64 (i : Int))) rfl) ?_
    refine DL.v (fun _ hD => o_indexAddr (b := b7) (off := o8) (n := xs.length) (c := d) i Try.underlying50 Try.sizeOf57 rfl rfl (by omega)) ?_
    refine DL.v (fun _ hD => o_load (b := b7) (off := o8 + i * 1) (v := (.complex .f32 ((xs.getD i (0, 0)).1) ((xs.getD i (0, 0)).2))) Try.isAgg57 rfl (Sl.at (Sl.ext hq hD) i (by omega) (0, 0) 0 _ rfl) rfl) ?_
    refine DL.v (fun _ hD => o_cvCC (s := .f32) (d := .f64) (a := (xs.getD i (0, 0)).1) (b := (xs.getD i (0, 0)).2) (by rw [Try.underlying57]; rfl) Try.underlying61 rfl (okw ((xs.getD i (0, 0)).1)) (okw ((xs.getD i (0, 0)).2))) ?_
    refine DL.v (v := (.bool true)) (fun _ hD => op_call [(.complex .f64 (cvt .f32 .f64 ((xs.getD i (0, 0)).1)) (cvt .f32 .f64 ((xs.getD i (0, 0)).2))), (.complex .f64 (cvt .f32 .f64 ((xs.getD i (0, 0)).1)) (cvt .f32 .f64 ((xs.getD i (0, 0)).2)))] Try.call38 rfl (sameComplex_c (cvt .f32 .f64 ((xs.getD i (0, 0)).1)) (cvt .f32 .f64 ((xs.getD i (0, 0)).2)))) ?_
    refine DL.v (fun _ hD => o_not (b := true) (c := false) rfl rfl) ?_
    refine DL.nil (Ext.refl _) ?_
    refine W.condF (b := false) rfl rfl ?_
    refine W.skip ?_
    refine W.region ?_
    refine L.v (o_move (v := (.int .i64 (i : Int))) rfl) ?_
    refine L.v (o_iadd (a := (i : Int)) (b := 1) (c := ((i + 1 : Nat) : Int)) rfl rfl (by rw [IntWalk.i64_in _ (by omega)]; try omega)) ?_
    refine L.v (o_assign (v := (.int .i64 (((i + 1 : Nat) : Int)))) rfl) ?_
    refine L.nil ?_
    exact ⟨_, (by omega), i + 1, rfl, (by omega), ⟨rfl, rfl, rfl, trivial⟩, rfl⟩
  ·
    have a9 : ¬ (((i : Int) : Int) < (xs.length : Int)) := of_decide_eq_false q3
    refine W.exit ?_
    refine W.seq ?_
    refine W.region ?_
    refine L.v (o_assign (v := (.bool true)) rfl) ?_
    refine L.nil ?_
    refine W.ret ?_
    exact RetK.one σ (.bool true) rfl rfl (Ext.refl _) ⟨by first | rfl | (exfalso; omega) | (exact absurd rfl (by assumption)), rfl⟩

theorem markcxB {w0 : World} {σ : Sg} (b e n c : Nat) (cs0 : List Value) (k : Int) (hb : σ b = some (e, cs0)) (hw : w0.heap.size ≤ b) (hn : n * 1 ≤ cs0.length) (hm : n ≤ 1048576) (hk : 0 ≤ k ∧ k ≤ 1099511627776) :
    Fn Try.prog w0 34 [(.slice (some ⟨b, 0, none⟩) n c), (.int .i64 k)] σ (fun u s => u = .int .i64 (k + 1 * (n : Int)) ∧ ∃ cs, s = sg σ b (e, cs) ∧ FillR ((mkcx k n).map cx) 1 cs ((mkcx k n).map cx).length) := by
  refine Fn.of_W 22 Try.func34 rfl Try.ntmps34 rfl ?_
  refine W.seq ?_
  refine W.region ?_
  refine L.v (o_assign (v := (.int .i64 0)) rfl) ?_
  refine L.nil ?_
  refine W.seq ?_
  refine W.seq ?_
  refine W.region ?_
  refine L.v (o_assign (v := (.int .i64 0)) rfl) ?_
  refine L.nil ?_
  refine W.block ?_
  refine W.loop (fun nn tt ss => ∃ (i : Nat), ∃ (cs : List Value), nn = n - i ∧ (i ≤ n) ∧ (FillR ((mkcx k n).map cx) 1 cs i) ∧ FrOk tt [(0, (.slice (some ⟨b, 0, none⟩) n c)), (1, (.int .i64 (k + 1 * (i : Int)))), (5, (.int .i64 (i : Int)))] ∧ sg σ b (e, cs) = ss) _ ⟨0, cs0, rfl, (by omega), (FillR.zero (by rw [List.length_map, mkcx_len]; omega)), ⟨rfl, (by show Value.int .i64 k = _; simp), rfl, trivial⟩, sg_same hb⟩ ?_
  rintro _ t1 _ ⟨i, cs, rfl, hi, hfl, f2, rfl⟩
  rw [← frame_ok f2]
  show W _ _ _ _ _ (upd (upd (upd t1 0 (.slice (some ⟨b, 0, none⟩) n c)) 1 (.int .i64 (k + 1 * (i : Int)))) 5 (.int .i64 (i : Int))) _
  refine W.seq ?_
  refine W.seq ?_
  refine W.region ?_
  refine L.v (o_move (v := (.int .i64 (i : Int))) rfl) ?_
  refine L.v (o_move (v := (.slice (some ⟨b, 0, none⟩) n c)) rfl) ?_
  refine L.v (o_len (p := (some ⟨b, 0, none⟩)) (n := n) (c := c) Try.underlying50 rfl) ?_
  refine L.v (o_ilss (a := (i : Int)) (b := (n : Int)) rfl rfl rfl) ?_
  refine L.nil ?_
  refine W.cond (b := decide (((i : Int) : Int) < (n : Int))) rfl (fun q3 => ?_) (fun q3 => ?_)
  ·
    have a4 : ((i : Int) : Int) < (n : Int) := of_decide_eq_true q3
    refine W.skip ?_
    refine W.seq ?_
    refine W.block ?_
    refine W.seq ?_
    refine W.region ?_
    refine L.v (o_move (v := (.slice (some ⟨b, 0, none⟩) n c)) rfl) ?_
    refine L.v (o_move (v := (.int .i64 (i : Int))) rfl) ?_
    refine L.v (o_move (v := (.int .i64 (k + 1 * (i : Int)))) rfl) ?_
    refine L.v (o_cvIF (a := k + 1 * (i : Int)) (by rw [Try.underlying3]; rfl) Try.underlying30 rfl) ?_
    refine L.v (o_complex (k := .f64) (a := FloatKind.nearest .f64 (k + 1 * (i : Int))) (b := 4607182418800017408) rfl rfl) ?_
    refine L.v (o_cvCC (s := .f64) (d := .f32) (a := FloatKind.nearest .f64 (k + 1 * (i : Int))) (b := 4607182418800017408) (by rw [Try.underlying61]; rfl) Try.underlying57 rfl (mark_ok (by omega)) (by decide +kernel)) ?_
    refine L.v (o_indexAddr (b := b) (off := 0) (n := n) (c := c) i Try.underlying50 Try.sizeOf57 rfl rfl (by omega)) ?_
    refine L.cons0 (o_store (b := b) (off := 0 + i * 1) (v := (.complex .f32 (cvt .f64 .f32 (FloatKind.nearest .f64 (k + 1 * (i : Int)))) (cvt .f64 .f32 4607182418800017408))) Try.sizeOf57 rfl rfl rfl (sg_eq _ _ _) (by have := hfl.1; rw [List.length_map, mkcx_len] at this; (try simp only [List.length_set]); omega) hw) ?_
    rintro _ _ ⟨rfl, rfl⟩
    rw [sg_sg, show 0 + i * 1 = i * 1 by omega]
    refine L.nil ?_
    refine W.region ?_
    refine L.v (o_move (v := (.int .i64 (k + 1 * (i : Int)))) rfl) ?_
    refine L.v (o_iadd (a := k + 1 * (i : Int)) (b := 1) (c := k + 1 * ((i + 1 : Nat) : Int)) rfl rfl (by rw [IntWalk.i64_in _ (by omega)]; try (push_cast; omega))) ?_
    refine L.v (o_assign (v := (.int .i64 (k + 1 * ((i + 1 : Nat) : Int)))) rfl) ?_
    refine L.nil ?_
    refine W.region ?_
    refine L.v (o_move (v := (.int .i64 (i : Int))) rfl) ?_
    refine L.v (o_iadd (a := (i : Int)) (b := 1) (c := ((i + 1 : Nat) : Int)) rfl rfl (by rw [IntWalk.i64_in _ (by omega)]; try (push_cast; omega))) ?_
    refine L.v (o_assign (v := (.int .i64 (((i + 1 : Nat) : Int)))) rfl) ?_
    refine L.nil ?_
    exact ⟨_, (by omega), i + 1, (cs).set (i * 1) (.complex .f32 (cvt .f64 .f32 (FloatKind.nearest .f64 (k + 1 * (i : Int)))) (cvt .f64 .f32 4607182418800017408)), rfl, (by omega), (FillR.step hfl (mkcx_get (by omega)) (cx_all _)), ⟨rfl, rfl, rfl, trivial⟩, rfl⟩
  ·
    have a5 : ¬ (((i : Int) : Int) < (n : Int)) := of_decide_eq_false q3
    refine W.exit ?_
    refine W.seq ?_
    refine W.region ?_
    refine L.v (o_move (v := (.int .i64 (k + 1 * (i : Int)))) rfl) ?_
    refine L.v (o_assign (v := (.int .i64 (k + 1 * (i : Int)))) rfl) ?_
    refine L.nil ?_
    refine W.ret ?_
    obtain rfl : i = n := by omega
    exact RetK.one _ (.int .i64 (k + 1 * (i : Int))) rfl rfl (Ext.refl _) ⟨rfl, cs, rfl, by rw [List.length_map, mkcx_len]; exact hfl⟩

theorem markcxE {w0 : World} {σ : Sg} (p : Option Addr) (c : Nat) (k : Int) :
    Fn Try.prog w0 34 [(.slice p 0 c), (.int .i64 k)] σ (fun u s => u = .int .i64 (k + 1 * ((0 : Nat) : Int)) ∧ s = σ) := by
  refine Fn.of_W 22 Try.func34 rfl Try.ntmps34 rfl ?_
  refine W.seq ?_
  refine W.region ?_
  refine L.v (o_assign (v := (.int .i64 0)) rfl) ?_
  refine L.nil ?_
  refine W.seq ?_
  refine W.seq ?_
  refine W.region ?_
  refine L.v (o_assign (v := (.int .i64 0)) rfl) ?_
  refine L.nil ?_
  refine W.block ?_
  refine W.loop (fun nn tt ss => ∃ (i : Nat), nn = 0 ∧ (i = 0) ∧ FrOk tt [(0, (.slice p 0 c)), (1, (.int .i64 k)), (5, (.int .i64 (i : Int)))] ∧ σ = ss) _ ⟨0, rfl, (by omega), ⟨rfl, rfl, rfl, trivial⟩, rfl⟩ ?_
  rintro _ t1 _ ⟨i, rfl, hi, f2, rfl⟩
  rw [← frame_ok f2]
  show W _ _ _ _ _ (upd (upd (upd t1 0 (.slice p 0 c)) 1 (.int .i64 k)) 5 (.int .i64 (i : Int))) _
  refine W.seq ?_
  refine W.seq ?_
  refine W.region ?_
  refine L.v (o_move (v := (.int .i64 (i : Int))) rfl) ?_
  refine L.v (o_move (v := (.slice p 0 c)) rfl) ?_
  refine L.v (o_len (p := p) (n := 0) (c := c) Try.underlying50 rfl) ?_
  refine L.v (o_ilss (a := (i : Int)) (b := 0) rfl rfl rfl) ?_
  refine L.nil ?_
  refine W.cond (b := decide (((i : Int) : Int) < 0)) rfl (fun q3 => ?_) (fun q3 => ?_)
  ·
    have a4 : ((i : Int) : Int) < 0 := of_decide_eq_true q3
    exact absurd (of_decide_eq_true q3) (by omega)
  ·
    have a5 : ¬ (((i : Int) : Int) < 0) := of_decide_eq_false q3
    refine W.exit ?_
    refine W.seq ?_
    refine W.region ?_
    refine L.v (o_move (v := (.int .i64 k)) rfl) ?_
    refine L.v (o_assign (v := (.int .i64 k)) rfl) ?_
    refine L.nil ?_
    refine W.ret ?_
    exact RetK.one _ (.int .i64 k) rfl rfl (Ext.refl _) ⟨by simp, rfl⟩

theorem markcx {w0 : World} {σ : Sg} (p : Option Addr) (n c : Nat) (k : Int) (ho : Mut w0 σ (n * 1) p) (hm : n ≤ 1048576) (hk : 0 ≤ k ∧ k ≤ 1099511627776) :
    Fn Try.prog w0 34 [.slice p n c, .int .i64 k] σ (fun u s => u = .int .i64 (k + 1 * (n : Int)) ∧ Mkd σ s n p ∧ Sl s 1 p ((mkcx k n).map cx)) := by
  by_cases h0 : n = 0
  · subst h0
    exact (markcxE p c k).mono fun u s ⟨h1, h2⟩ => ⟨h1, .inl ⟨rfl, h2⟩, .inl rfl⟩
  · rcases ho with ho | ⟨b, e, cs, rfl, hw, hb, hl⟩
    · exact absurd ho (by omega)
    · refine (markcxB b e n c cs k hb hw hl hm hk).mono fun u s ⟨h1, cs', h2, h3⟩ => ⟨h1, .inr ⟨h0, b, rfl, ?_⟩, ?_⟩
      · rw [h2]; exact But.sg
      · exact FillR.sl h3 (by rw [h2]; exact sg_eq _ _ _)

theorem heldcx {w0 : World} {σ : Sg} (p : Option Addr) (n c : Nat) (k : Int) (hs : Sl σ 1 p ((mkcx k n).map cx)) (hm : n ≤ 1048576) (hk : 0 ≤ k ∧ k ≤ 1099511627776) :
    FnV Try.prog w0 35 [(.slice p n c), (.int .i64 k)] σ (.int .i64 (k + 1 * (n : Int))) := by
  unfold FnV
  refine Fn.of_W 24 Try.func35 rfl Try.ntmps35 rfl ?_
  refine W.seq ?_
  refine W.region ?_
  refine L.v (o_assign (v := (.int .i64 0)) rfl) ?_
  refine L.nil ?_
  refine W.seq ?_
  refine W.seq ?_
  refine W.region ?_
  refine L.v (o_assign (v := (.int .i64 0)) rfl) ?_
  refine L.nil ?_
  refine W.block ?_
  refine W.loop (fun nn tt ss => ∃ (i : Nat), nn = n - i ∧ (i ≤ n) ∧ FrOk tt [(0, (.slice p n c)), (1, (.int .i64 (k + 1 * (i : Int)))), (5, (.int .i64 (i : Int)))] ∧ σ = ss) _ ⟨0, rfl, (by omega), ⟨rfl, (by show Value.int .i64 k = _; simp), rfl, trivial⟩, rfl⟩ ?_
  rintro _ t1 _ ⟨i, rfl, hi, f2, rfl⟩
  rw [← frame_ok f2]
  show W _ _ _ _ _ (upd (upd (upd t1 0 (.slice p n c)) 1 (.int .i64 (k + 1 * (i : Int)))) 5 (.int .i64 (i : Int))) _
  refine W.seq ?_
  refine W.seq ?_
  refine W.region ?_
  refine L.v (o_move (v := (.int .i64 (i : Int))) rfl) ?_
  refine L.v (o_move (v := (.slice p n c)) rfl) ?_
  refine L.v (o_len (p := p) (n := n) (c := c) Try.underlying50 rfl) ?_
  refine L.v (o_ilss (a := (i : Int)) (b := (n : Int)) rfl rfl rfl) ?_
  refine L.nil ?_
  refine W.cond (b := decide (((i : Int) : Int) < (n : Int))) rfl (fun q3 => ?_) (fun q3 => ?_)
  ·
    have a4 : ((i : Int) : Int) < (n : Int) := of_decide_eq_true q3
    refine W.skip ?_
    refine W.seq ?_
    refine W.block ?_
    refine W.seq ?_
    refine W.seq ?_
    obtain ⟨b5, o6, rfl, _⟩ := hs.get (mkcx_get (k := k) (n := n) (i := i) (by omega))
    refine W.region ?_
    refine L.v (o_move (v := (.slice (some ⟨b5, o6, none⟩) n c)) rfl) ?_
    refine L.v (o_move (v := (.int .i64 (i : Int))) rfl) ?_
    refine L.v (o_indexAddr (b := b5) (off := o6) (n := n) (c := c) i Try.underlying50 Try.sizeOf57 rfl rfl (by omega)) ?_
    refine L.v (o_load (b := b5) (off := o6 + i * 1) (v := (.complex .f32 (cvt .f64 .f32 (FloatKind.nearest .f64 (k + 1 * (i : Int)))) (cvt .f64 .f32 4607182418800017408))) Try.isAgg57 rfl (Sl.mkcx hs (by omega) 0 _ rfl) rfl) ?_
    refine L.v (o_move (v := (.int .i64 (k + 1 * (i : Int)))) rfl) ?_
    refine L.v (o_cvIF (a := k + 1 * (i : Int)) (by rw [Try.underlying3]; rfl) Try.underlying30 rfl) ?_
    refine L.v (o_complex (k := .f64) (a := FloatKind.nearest .f64 (k + 1 * (i : Int))) (b := 4607182418800017408) rfl rfl) ?_
    refine L.v (o_cvCC (s := .f64) (d := .f32) (a := FloatKind.nearest .f64 (k + 1 * (i : Int))) (b := 4607182418800017408) (by rw [Try.underlying61]; rfl) Try.underlying57 rfl (mark_ok (by omega)) (by decide +kernel)) ?_
    refine L.v (o_cneq (k := .f32) (a := cvt .f64 .f32 (FloatKind.nearest .f64 (k + 1 * (i : Int)))) (b := cvt .f64 .f32 4607182418800017408) (c := cvt .f64 .f32 (FloatKind.nearest .f64 (k + 1 * (i : Int)))) (d := cvt .f64 .f32 4607182418800017408) rfl rfl rfl) ?_
    refine L.nil ?_
    refine W.condF (b := !(fcmp .eql .f32 (cvt .f64 .f32 (FloatKind.nearest .f64 (k + 1 * (i : Int)))) (cvt .f64 .f32 (FloatKind.nearest .f64 (k + 1 * (i : Int)))) && fcmp .eql .f32 (cvt .f64 .f32 4607182418800017408) (cvt .f64 .f32 4607182418800017408))) rfl (cneq_self (mark_num (by omega)) one_num) ?_
    refine W.skip ?_
    refine W.region ?_
    refine L.v (o_move (v := (.int .i64 (k + 1 * (i : Int)))) rfl) ?_
    refine L.v (o_iadd (a := k + 1 * (i : Int)) (b := 1) (c := k + 1 * ((i + 1 : Nat) : Int)) rfl rfl (by rw [IntWalk.i64_in _ (by omega)]; try (push_cast; omega))) ?_
    refine L.v (o_assign (v := (.int .i64 (k + 1 * ((i + 1 : Nat) : Int)))) rfl) ?_
    refine L.nil ?_
    refine W.region ?_
    refine L.v (o_move (v := (.int .i64 (i : Int))) rfl) ?_
    refine L.v (o_iadd (a := (i : Int)) (b := 1) (c := ((i + 1 : Nat) : Int)) rfl rfl (by rw [IntWalk.i64_in _ (by omega)]; try (push_cast; omega))) ?_
    refine L.v (o_assign (v := (.int .i64 (((i + 1 : Nat) : Int)))) rfl) ?_
    refine L.nil ?_
    exact ⟨_, (by omega), i + 1, rfl, (by omega), ⟨rfl, rfl, rfl, trivial⟩, rfl⟩
  ·
    have a7 : ¬ (((i : Int) : Int) < (n : Int)) := of_decide_eq_false q3
    refine W.exit ?_
    refine W.seq ?_
    refine W.region ?_
    refine L.v (o_move (v := (.int .i64 (k + 1 * (i : Int)))) rfl) ?_
    refine L.v (o_assign (v := (.int .i64 (k + 1 * (i : Int)))) rfl) ?_
    refine L.nil ?_
    refine W.ret ?_
    obtain rfl : i = n := by omega
    exact RetK.one σ (.int .i64 (k + 1 * (i : Int))) rfl rfl (Ext.refl _) ⟨rfl, rfl⟩

end Go.Proofs.Ytnonlibekcacgaa.En
