/- The laws' own helpers over lines. -/
import Derived.Test.YtnonlibekcacgaaEngP
import Derived.Test.YtnonlibekcacgaaRecs
import Derived.Test.YtnonlibekcacgaaRows
namespace Go.Proofs.Ytnonlibekcacgaa.En
open Go
set_option linter.unusedVariables false
set_option maxRecDepth 100000
def szF (k : Int) (n : Nat) : Int := if k - (n : Int) < 0 then -1 else k - (n : Int)
theorem szF_ok {n : Nat} (h : ¬ (szF 1048576 n < 0)) : n ≤ 1048576 := by
  unfold szF at h
  split at h <;> omega
theorem el_len (x : Int × Nat × Nat) : (el x).length = 3 := rfl
theorem el_all (xs : List (Int × Nat × Nat)) : ∀ r ∈ xs.map el, r.length = 3 := by
  intro r hr
  obtain ⟨x, _, rfl⟩ := List.mem_map.1 hr
  rfl
theorem el_ne (xs : List (Int × Nat × Nat)) : ∀ r ∈ xs.map el, r ≠ [] := by
  intro r hr e
  have := el_all xs r hr
  rw [e] at this; cases this
theorem el_get {xs : List (Int × Nat × Nat)} {i : Nat} (h : i < xs.length) : (xs.map el)[i]? = some (el (xs.getD i (0, 0, 0))) := by simp [h]
def marksE (k : Int) (n : Nat) : List (Int × Nat × Nat) := (List.range n).map fun (j : Nat) => (k + 3 * (j : Int), FloatKind.nearest .f32 (k + 3 * (j : Int) + 1), FloatKind.nearest .f32 (k + 3 * (j : Int) + 2))
@[simp] theorem marksE_len (k : Int) (n : Nat) : (marksE k n).length = n := by simp [marksE]
theorem marksE_get {k : Int} {n i : Nat} (h : i < n) : ((marksE k n).map el)[i]? = some [.int .i64 (k + 3 * (i : Int)), .float .f32 (FloatKind.nearest .f32 (k + 3 * (i : Int) + 1)), .float .f32 (FloatKind.nearest .f32 (k + 3 * (i : Int) + 2))] := by simp [marksE, h, el]
theorem Sl.marksE {s : Sg} {k : Int} {n i : Nat} {b off : Nat} (h : Sl s 3 (some ⟨b, off, .none⟩) ((En.marksE k n).map el)) (hi : i < n) : Rds s b (off + i * 3) [.int .i64 (k + 3 * (i : Int)), .float .f32 (FloatKind.nearest .f32 (k + 3 * (i : Int) + 1)), .float .f32 (FloatKind.nearest .f32 (k + 3 * (i : Int) + 2))] := by
  obtain ⟨b', off', hp, hr⟩ := h.get (marksE_get hi)
  cases hp
  exact hr
theorem toElem_c {w0 : World} {σ : Sg} (a : Int) (x y : Nat) :
    FnV Try.prog w0 72 [(.agg #[(.int .i64 a), (.float .f32 x), (.float .f32 y)])] σ (.agg #[.int .i64 a, .float .f32 x, .float .f32 y]) := by
  unfold FnV
  refine Fn.of_W 14 Try.func72 rfl Try.ntmps72 rfl ?_
  refine W.seq ?_
  refine W.region ?_
  refine L.cons (o_box (v := (.agg #[(.int .i64 a), (.float .f32 x), (.float .f32 y)])) rfl rfl [(.int .i64 a), (.float .f32 x), (.float .f32 y)] rfl) ?_
  rintro _ _ ⟨b1, hf2, hw3, rfl, rfl⟩
  have fz7 := Ext.none (Ext.refl _) hf2
  have hb6 : (sg σ b1 (100, [(.int .i64 a), (.float .f32 x), (.float .f32 y)])) b1 = some (100, [(.int .i64 a), (.float .f32 x), (.float .f32 y)]) := sg_eq _ _ _
  have hx5 : Ext σ (sg σ b1 (100, [(.int .i64 a), (.float .f32 x), (.float .f32 y)])) := (Ext.refl _).sg hf2
  have ehx5 := Ext.trans (Ext.refl _) hx5
  generalize hgs4 : sg σ b1 (100, [(.int .i64 a), (.float .f32 x), (.float .f32 y)]) = s4 at *
  clear hgs4
  refine L.cons (o_alloc Try.zeroValue98 [(.int .i64 0), (.float .f32 0), (.float .f32 0)] rfl) ?_
  rintro _ _ ⟨b8, hf9, hw10, rfl, rfl⟩
  have fz14 := Ext.none ehx5 hf9
  have ne15 := ne_of_free hb6 hf9
  have hb13 : (sg s4 b8 (98, [(.int .i64 0), (.float .f32 0), (.float .f32 0)])) b8 = some (98, [(.int .i64 0), (.float .f32 0), (.float .f32 0)]) := sg_eq _ _ _
  have hx12 : Ext s4 (sg s4 b8 (98, [(.int .i64 0), (.float .f32 0), (.float .f32 0)])) := (Ext.refl _).sg hf9
  have hb16 := hx12 _ _ hb6
  have ehx12 := Ext.trans ehx5 hx12
  generalize hgs11 : sg s4 b8 (98, [(.int .i64 0), (.float .f32 0), (.float .f32 0)]) = s11 at *
  clear hgs11
  refine L.nil ?_
  refine W.seq ?_
  refine W.region ?_
  refine L.cons (o_alloc Try.zeroValue98 [(.int .i64 0), (.float .f32 0), (.float .f32 0)] rfl) ?_
  rintro _ _ ⟨b17, hf18, hw19, rfl, rfl⟩
  have fz23 := Ext.none ehx12 hf18
  have ne24 := ne_of_free hb16 hf18
  have ne25 := ne_of_free hb13 hf18
  have hb22 : (sg s11 b17 (98, [(.int .i64 0), (.float .f32 0), (.float .f32 0)])) b17 = some (98, [(.int .i64 0), (.float .f32 0), (.float .f32 0)]) := sg_eq _ _ _
  have hx21 : Ext s11 (sg s11 b17 (98, [(.int .i64 0), (.float .f32 0), (.float .f32 0)])) := (Ext.refl _).sg hf18
  have hb26 := hx21 _ _ hb16
  have hb27 := hx21 _ _ hb13
  have ehx21 := Ext.trans ehx12 hx21
  generalize hgs20 : sg s11 b17 (98, [(.int .i64 0), (.float .f32 0), (.float .f32 0)]) = s20 at *
  clear hgs20
  refine L.nil ?_
  refine W.seq ?_
  refine W.region ?_
  refine L.v (o_fieldAddr (b := b1) (off := 0) (o := 0) (run_fieldAt (f := 0) (fld := { name := "Kind", type := 2, offset := 0, embedded := false, tag := "", pkgPath := "", byteOffset := 0 }) Try.underlying100 rfl Try.sizeOf2 (Nat.succ_ne_zero _)) rfl) ?_
  refine L.v (o_load (b := b1) (off := 0 + 0) (v := (.int .i64 a)) Try.isAgg2 rfl (Rd.of hb26 rfl) rfl) ?_
  refine L.v (o_fieldAddr (b := b17) (off := 0) (o := 0) (run_fieldAt (f := 0) (fld := { name := "Kind", type := 2, offset := 0, embedded := false, tag := "", pkgPath := "", byteOffset := 0 }) Try.underlying98 rfl Try.sizeOf2 (Nat.succ_ne_zero _)) rfl) ?_
  refine L.cons0 (o_store (b := b17) (off := 0 + 0) (v := (.int .i64 a)) Try.sizeOf2 rfl rfl rfl hb22 (by show _ < 3; decide) hw19) ?_
  rintro _ _ ⟨rfl, rfl⟩
  show L _ _ _ _ _ _ _ (sg s20 b17 (98, [(.int .i64 a), (.float .f32 0), (.float .f32 0)]))
  have e30 := Ext.sg (x := (98, [(.int .i64 a), (.float .f32 0), (.float .f32 0)])) ehx21 fz23
  generalize hgs29 : sg s20 b17 (98, [(.int .i64 a), (.float .f32 0), (.float .f32 0)]) = s29 at *
  have hb28 := congrFun hgs29 b17
  rw [sg_eq] at hb28
  replace hb28 : s29 b17 = some (98, [(.int .i64 a), (.float .f32 0), (.float .f32 0)]) := hb28.symm
  have hb31 := congrFun hgs29 b1
  rw [sg_other hb26 ne24] at hb31
  replace hb31 := hb31.symm
  have hb32 := congrFun hgs29 b8
  rw [sg_other hb27 ne25] at hb32
  replace hb32 := hb32.symm
  clear hgs29
  refine L.nil ?_
  refine W.seq ?_
  refine W.region ?_
  refine L.v (o_fieldAddr (b := b1) (off := 0) (o := 1) (run_fieldAt (f := 1) (fld := { name := "Number", type := 24, offset := 1, embedded := false, tag := "", pkgPath := "", byteOffset := 8 }) Try.underlying100 rfl Try.sizeOf24 (Nat.succ_ne_zero _)) rfl) ?_
  refine L.v (o_load (b := b1) (off := 0 + 1) (v := (.float .f32 x)) Try.isAgg24 rfl (Rd.of hb31 rfl) rfl) ?_
  refine L.v (o_fieldAddr (b := b17) (off := 0) (o := 1) (run_fieldAt (f := 1) (fld := { name := "Number", type := 24, offset := 1, embedded := false, tag := "", pkgPath := "", byteOffset := 8 }) Try.underlying98 rfl Try.sizeOf24 (Nat.succ_ne_zero _)) rfl) ?_
  refine L.cons0 (o_store (b := b17) (off := 0 + 1) (v := (.float .f32 x)) Try.sizeOf24 rfl rfl rfl hb28 (by show _ < 3; decide) hw19) ?_
  rintro _ _ ⟨rfl, rfl⟩
  show L _ _ _ _ _ _ _ (sg s29 b17 (98, [(.int .i64 a), (.float .f32 x), (.float .f32 0)]))
  have e35 := Ext.sg (x := (98, [(.int .i64 a), (.float .f32 x), (.float .f32 0)])) e30 fz23
  generalize hgs34 : sg s29 b17 (98, [(.int .i64 a), (.float .f32 x), (.float .f32 0)]) = s34 at *
  have hb33 := congrFun hgs34 b17
  rw [sg_eq] at hb33
  replace hb33 : s34 b17 = some (98, [(.int .i64 a), (.float .f32 x), (.float .f32 0)]) := hb33.symm
  have hb36 := congrFun hgs34 b1
  rw [sg_other hb31 ne24] at hb36
  replace hb36 := hb36.symm
  have hb37 := congrFun hgs34 b8
  rw [sg_other hb32 ne25] at hb37
  replace hb37 := hb37.symm
  clear hgs34
  refine L.nil ?_
  refine W.seq ?_
  refine W.region ?_
  refine L.v (o_fieldAddr (b := b1) (off := 0) (o := 2) (run_fieldAt (f := 2) (fld := { name := "Phase", type := 24, offset := 2, embedded := false, tag := "", pkgPath := "", byteOffset := 12 }) Try.underlying100 rfl Try.sizeOf24 (Nat.succ_ne_zero _)) rfl) ?_
  refine L.v (o_load (b := b1) (off := 0 + 2) (v := (.float .f32 y)) Try.isAgg24 rfl (Rd.of hb36 rfl) rfl) ?_
  refine L.v (o_fieldAddr (b := b17) (off := 0) (o := 2) (run_fieldAt (f := 2) (fld := { name := "Phase", type := 24, offset := 2, embedded := false, tag := "", pkgPath := "", byteOffset := 12 }) Try.underlying98 rfl Try.sizeOf24 (Nat.succ_ne_zero _)) rfl) ?_
  refine L.cons0 (o_store (b := b17) (off := 0 + 2) (v := (.float .f32 y)) Try.sizeOf24 rfl rfl rfl hb33 (by show _ < 3; decide) hw19) ?_
  rintro _ _ ⟨rfl, rfl⟩
  show L _ _ _ _ _ _ _ (sg s34 b17 (98, [(.int .i64 a), (.float .f32 x), (.float .f32 y)]))
  have e40 := Ext.sg (x := (98, [(.int .i64 a), (.float .f32 x), (.float .f32 y)])) e35 fz23
  generalize hgs39 : sg s34 b17 (98, [(.int .i64 a), (.float .f32 x), (.float .f32 y)]) = s39 at *
  have hb38 := congrFun hgs39 b17
  rw [sg_eq] at hb38
  replace hb38 : s39 b17 = some (98, [(.int .i64 a), (.float .f32 x), (.float .f32 y)]) := hb38.symm
  have hb41 := congrFun hgs39 b1
  rw [sg_other hb36 ne24] at hb41
  replace hb41 := hb41.symm
  have hb42 := congrFun hgs39 b8
  rw [sg_other hb37 ne25] at hb42
  replace hb42 := hb42.symm
  clear hgs39
  refine L.nil ?_
  refine W.seq ?_
  refine W.region ?_
  refine L.v (o_loads (b := b17) (off := 0) (vs := [(.int .i64 a), (.float .f32 x), (.float .f32 y)]) Try.isAgg98 Try.sizeOf98 rfl rfl (Rds.of hb38 (by intro j v hj; simpa using hj))) ?_
  refine L.cons0 (o_stores (b := b8) (off := 0) (vs := [(.int .i64 a), (.float .f32 x), (.float .f32 y)]) Try.sizeOf98 rfl rfl rfl (by simp [Value.oneCell']) hb42 (by show _ ≤ 3; decide) hw10) ?_
  rintro _ _ ⟨rfl, rfl⟩
  show L _ _ _ _ _ _ _ (sg s39 b8 (98, [(.int .i64 a), (.float .f32 x), (.float .f32 y)]))
  have e45 := Ext.sg (x := (98, [(.int .i64 a), (.float .f32 x), (.float .f32 y)])) e40 fz14
  generalize hgs44 : sg s39 b8 (98, [(.int .i64 a), (.float .f32 x), (.float .f32 y)]) = s44 at *
  have hb43 := congrFun hgs44 b8
  rw [sg_eq] at hb43
  replace hb43 : s44 b8 = some (98, [(.int .i64 a), (.float .f32 x), (.float .f32 y)]) := hb43.symm
  have hb46 := congrFun hgs44 b1
  rw [sg_other hb41 ne15] at hb46
  replace hb46 := hb46.symm
  have hb47 := congrFun hgs44 b17
  rw [sg_other hb38 (Ne.symm ne25)] at hb47
  replace hb47 := hb47.symm
  clear hgs44
  refine L.nil ?_
  refine W.ret ?_
  exact RetK.cell σ [(.int .i64 a), (.float .f32 x), (.float .f32 y)] Try.isAgg98 Try.sizeOf98 rfl rfl rfl (Rds.of hb43 (by intro j v hj; simpa using hj)) e45 ⟨rfl, rfl⟩

theorem eqElem_c {w0 : World} {σ : Sg} (a : Int) (x y : Nat) :
    FnV Try.prog w0 77 [(.agg #[(.int .i64 a), (.float .f32 x), (.float .f32 y)]), (.agg #[(.int .i64 a), (.float .f32 x), (.float .f32 y)])] σ (.bool true) := by
  unfold FnV
  refine Fn.of_W 26 Try.func77 rfl Try.ntmps77 rfl ?_
  refine W.seq ?_
  refine W.region ?_
  refine L.cons (o_box (v := (.agg #[(.int .i64 a), (.float .f32 x), (.float .f32 y)])) rfl rfl [(.int .i64 a), (.float .f32 x), (.float .f32 y)] rfl) ?_
  rintro _ _ ⟨b1, hf2, hw3, rfl, rfl⟩
  have hb6 : (sg σ b1 (98, [(.int .i64 a), (.float .f32 x), (.float .f32 y)])) b1 = some (98, [(.int .i64 a), (.float .f32 x), (.float .f32 y)]) := sg_eq _ _ _
  have hx5 : Ext σ (sg σ b1 (98, [(.int .i64 a), (.float .f32 x), (.float .f32 y)])) := (Ext.refl _).sg hf2
  have ehx5 := Ext.trans (Ext.refl _) hx5
  generalize hgs4 : sg σ b1 (98, [(.int .i64 a), (.float .f32 x), (.float .f32 y)]) = s4 at *
  clear hgs4
  refine L.cons (o_box (v := (.agg #[(.int .i64 a), (.float .f32 x), (.float .f32 y)])) rfl rfl [(.int .i64 a), (.float .f32 x), (.float .f32 y)] rfl) ?_
  rintro _ _ ⟨b7, hf8, hw9, rfl, rfl⟩
  have hb12 : (sg s4 b7 (98, [(.int .i64 a), (.float .f32 x), (.float .f32 y)])) b7 = some (98, [(.int .i64 a), (.float .f32 x), (.float .f32 y)]) := sg_eq _ _ _
  have hx11 : Ext s4 (sg s4 b7 (98, [(.int .i64 a), (.float .f32 x), (.float .f32 y)])) := (Ext.refl _).sg hf8
  have hb13 := hx11 _ _ hb6
  have ehx11 := Ext.trans ehx5 hx11
  generalize hgs10 : sg s4 b7 (98, [(.int .i64 a), (.float .f32 x), (.float .f32 y)]) = s10 at *
  clear hgs10
  refine L.v (o_assign (v := (.bool false)) rfl) ?_
  refine L.nil ?_
  refine W.seq ?_
  refine W.seq ?_
  refine W.region ?_
  refine L.v (o_fieldAddr (b := b1) (off := 0) (o := 0) (run_fieldAt (f := 0) (fld := { name := "Kind", type := 2, offset := 0, embedded := false, tag := "", pkgPath := "", byteOffset := 0 }) Try.underlying98 rfl Try.sizeOf2 (Nat.succ_ne_zero _)) rfl) ?_
  refine L.v (o_load (b := b1) (off := 0 + 0) (v := (.int .i64 a)) Try.isAgg2 rfl (Rd.of hb13 rfl) rfl) ?_
  refine L.v (o_fieldAddr (b := b7) (off := 0) (o := 0) (run_fieldAt (f := 0) (fld := { name := "Kind", type := 2, offset := 0, embedded := false, tag := "", pkgPath := "", byteOffset := 0 }) Try.underlying98 rfl Try.sizeOf2 (Nat.succ_ne_zero _)) rfl) ?_
  refine L.v (o_load (b := b7) (off := 0 + 0) (v := (.int .i64 a)) Try.isAgg2 rfl (Rd.of hb12 rfl) rfl) ?_
  refine L.v (o_ineq (a := a) (b := a) (c := false) rfl rfl (by simp)) ?_
  refine L.nil ?_
  refine W.condF (b := false) rfl rfl ?_
  refine W.skip ?_
  refine W.seq ?_
  refine W.seq ?_
  refine W.region ?_
  refine L.v (o_fieldAddr (b := b1) (off := 0) (o := 1) (run_fieldAt (f := 1) (fld := { name := "Number", type := 24, offset := 1, embedded := false, tag := "", pkgPath := "", byteOffset := 8 }) Try.underlying98 rfl Try.sizeOf24 (Nat.succ_ne_zero _)) rfl) ?_
  refine L.v (o_load (b := b1) (off := 0 + 1) (v := (.float .f32 x)) Try.isAgg24 rfl (Rd.of hb13 rfl) rfl) ?_
  refine L.v (o_cvFF (s := .f32) (d := .f64) (a := x) (by rw [Try.underlying24]; rfl) Try.underlying30 rfl (okw x)) ?_
  refine L.v (o_fieldAddr (b := b7) (off := 0) (o := 1) (run_fieldAt (f := 1) (fld := { name := "Number", type := 24, offset := 1, embedded := false, tag := "", pkgPath := "", byteOffset := 8 }) Try.underlying98 rfl Try.sizeOf24 (Nat.succ_ne_zero _)) rfl) ?_
  refine L.v (o_load (b := b7) (off := 0 + 1) (v := (.float .f32 x)) Try.isAgg24 rfl (Rd.of hb12 rfl) rfl) ?_
  refine L.v (o_cvFF (s := .f32) (d := .f64) (a := x) (by rw [Try.underlying24]; rfl) Try.underlying30 rfl (okw x)) ?_
  refine L.v (v := (.bool true)) (op_call [(.float .f64 (cvt .f32 .f64 x)), (.float .f64 (cvt .f32 .f64 x))] Try.call14 rfl (sameFloat_c (cvt .f32 .f64 x))) ?_
  refine L.v (o_not (b := true) (c := false) rfl rfl) ?_
  refine L.nil ?_
  refine W.condF (b := false) rfl rfl ?_
  refine W.skip ?_
  refine W.seq ?_
  refine W.seq ?_
  refine W.region ?_
  refine L.v (o_fieldAddr (b := b1) (off := 0) (o := 2) (run_fieldAt (f := 2) (fld := { name := "Phase", type := 24, offset := 2, embedded := false, tag := "", pkgPath := "", byteOffset := 12 }) Try.underlying98 rfl Try.sizeOf24 (Nat.succ_ne_zero _)) rfl) ?_
  refine L.v (o_load (b := b1) (off := 0 + 2) (v := (.float .f32 y)) Try.isAgg24 rfl (Rd.of hb13 rfl) rfl) ?_
  refine L.v (o_cvFF (s := .f32) (d := .f64) (a := y) (by rw [Try.underlying24]; rfl) Try.underlying30 rfl (okw y)) ?_
  refine L.v (o_fieldAddr (b := b7) (off := 0) (o := 2) (run_fieldAt (f := 2) (fld := { name := "Phase", type := 24, offset := 2, embedded := false, tag := "", pkgPath := "", byteOffset := 12 }) Try.underlying98 rfl Try.sizeOf24 (Nat.succ_ne_zero _)) rfl) ?_
  refine L.v (o_load (b := b7) (off := 0 + 2) (v := (.float .f32 y)) Try.isAgg24 rfl (Rd.of hb12 rfl) rfl) ?_
  refine L.v (o_cvFF (s := .f32) (d := .f64) (a := y) (by rw [Try.underlying24]; rfl) Try.underlying30 rfl (okw y)) ?_
  refine L.v (v := (.bool true)) (op_call [(.float .f64 (cvt .f32 .f64 y)), (.float .f64 (cvt .f32 .f64 y))] Try.call14 rfl (sameFloat_c (cvt .f32 .f64 y))) ?_
  refine L.v (o_not (b := true) (c := false) rfl rfl) ?_
  refine L.nil ?_
  refine W.condF (b := false) rfl rfl ?_
  refine W.skip ?_
  refine W.seq ?_
  refine W.region ?_
  refine L.v (o_assign (v := (.bool true)) rfl) ?_
  refine L.nil ?_
  refine W.ret ?_
  exact RetK.one σ (.bool true) rfl rfl ehx11 ⟨rfl, rfl⟩

theorem szElem_c {w0 : World} {σ : Sg} (p : Option Addr) (n c : Nat) (k : Int) (hn : n ≤ maxLen) (hk : 0 ≤ k ∧ k ≤ 1048576) :
    FnV Try.prog w0 39 [(.slice p n c), (.int .i64 k)] σ (.int .i64 (szF k n)) := by
  unfold FnV
  unfold maxLen at hn
  refine Fn.of_W 12 Try.func39 rfl Try.ntmps39 rfl ?_
  refine W.seq ?_
  refine W.region ?_
  refine L.v (o_assign (v := (.int .i64 0)) rfl) ?_
  refine L.nil ?_
  refine W.seq ?_
  refine W.region ?_
  refine L.v (o_move (v := (.int .i64 k)) rfl) ?_
  refine L.v (o_move (v := (.slice p n c)) rfl) ?_
  refine L.v (o_len (p := p) (n := n) (c := c) Try.underlying63 rfl) ?_
  refine L.v (o_isub (a := k) (b := (n : Int)) (c := k - (n : Int)) rfl rfl (by rw [IntWalk.i64_in _ (by omega)]; try omega)) ?_
  refine L.v (o_assign (v := (.int .i64 (k - (n : Int)))) rfl) ?_
  refine L.nil ?_
  refine W.seq ?_
  refine W.seq ?_
  refine W.region ?_
  refine L.v (o_move (v := (.int .i64 (k - (n : Int)))) rfl) ?_
  refine L.v (o_ilss (a := k - (n : Int)) (b := 0) rfl rfl rfl) ?_
  refine L.nil ?_
  refine W.cond (b := decide ((k - (n : Int) : Int) < 0)) rfl (fun q1 => ?_) (fun q1 => ?_)
  ·
    have a2 : (k - (n : Int) : Int) < 0 := of_decide_eq_true q1
    refine W.seq ?_
    refine W.region ?_
    refine L.v (o_assign (v := (.int .i64 (-1))) rfl) ?_
    refine L.nil ?_
    refine W.ret ?_
    exact RetK.one σ (.int .i64 (-1)) rfl rfl (Ext.refl _) ⟨by first | (rw [szF, if_pos (by omega)]) | (rw [szF, if_neg (by omega)]), rfl⟩
  ·
    have a3 : ¬ ((k - (n : Int) : Int) < 0) := of_decide_eq_false q1
    refine W.skip ?_
    refine W.seq ?_
    refine W.region ?_
    refine L.v (o_move (v := (.int .i64 (k - (n : Int)))) rfl) ?_
    refine L.v (o_assign (v := (.int .i64 (k - (n : Int)))) rfl) ?_
    refine L.nil ?_
    refine W.ret ?_
    exact RetK.one σ (.int .i64 (k - (n : Int))) rfl rfl (Ext.refl _) ⟨by first | (rw [szF, if_pos (by omega)]) | (rw [szF, if_neg (by omega)]), rfl⟩

theorem toElemS {w0 : World} {σ : Sg} (p : Option Addr) (c : Nat) (xs : List (Int × Nat × Nat)) (hs : Sl σ 3 p (xs.map el)) (hn : xs.length ≤ 1048576) :
    Fn Try.prog w0 41 [(.slice p xs.length c)] σ (fun u s => ∃ p, u = .slice p xs.length xs.length ∧ Fsl w0 σ 3 (xs.map el) p s) := by
  refine Fn.of_W 23 Try.func41 rfl Try.ntmps41 rfl ?_
  refine W.seq ?_
  refine W.region ?_
  refine L.v (o_assign (v := (.slice none 0 0)) rfl) ?_
  refine L.nil ?_
  refine W.seq ?_
  refine W.region ?_
  refine L.v (o_move (v := (.slice p xs.length c)) rfl) ?_
  refine L.v (o_len (p := p) (n := xs.length) (c := c) Try.underlying63 rfl) ?_
  refine L.cons (o_makeSlice (ik := .i64) (info := Try.t98) (z := .agg #[.int .i64 0, .float .f32 0, .float .f32 0]) xs.length Try.underlying66 Try.type98 rfl rfl (by show 16 * _ ≤ _; omega) (by omega)) ?_
  rintro _ _ ⟨b, hf, hw, rfl, rfl⟩
  generalize hcs : (madeCells (Value.agg #[.int .i64 0, .float .f32 0, .float .f32 0]).cells (xs.length * Try.t98.size)).toList = cs0
  have hl0 : cs0.length = xs.length * 3 := by rw [← hcs]; exact made_len _ _
  refine L.v (o_assign (v := (.slice (some ⟨b, 0, none⟩) xs.length xs.length)) rfl) ?_
  refine L.nil ?_
  refine W.seq ?_
  refine W.seq ?_
  refine W.region ?_
  refine L.v (o_assign (v := (.int .i64 0)) rfl) ?_
  refine L.nil ?_
  refine W.block ?_
  refine W.loop (fun nn tt ss => ∃ (i : Nat), ∃ (cs : List Value), nn = xs.length - i ∧ (i ≤ xs.length) ∧ (FillR (xs.map el) 3 cs i) ∧ FrOk tt [(0, (.slice p xs.length c)), (3, (.slice (some ⟨b, 0, none⟩) xs.length xs.length)), (4, (.int .i64 (i : Int)))] ∧ sg σ b (98, cs) = ss) _ ⟨0, cs0, rfl, (by omega), (FillR.zero (by rw [List.length_map]; omega)), ⟨rfl, rfl, rfl, trivial⟩, rfl⟩ ?_
  rintro _ t1 _ ⟨i, cs, rfl, hi, hfl, f2, rfl⟩
  rw [← frame_ok f2]
  show W _ _ _ _ _ (upd (upd (upd t1 0 (.slice p xs.length c)) 3 (.slice (some ⟨b, 0, none⟩) xs.length xs.length)) 4 (.int .i64 (i : Int))) _
  refine W.seq ?_
  refine W.seq ?_
  refine W.region ?_
  refine L.v (o_move (v := (.int .i64 (i : Int))) rfl) ?_
  refine L.v (o_move (v := (.slice p xs.length c)) rfl) ?_
  refine L.v (o_len (p := p) (n := xs.length) (c := c) Try.underlying63 rfl) ?_
  refine L.v (o_ilss (a := (i : Int)) (b := (xs.length : Int)) rfl rfl rfl) ?_
  refine L.nil ?_
  refine W.cond (b := decide (((i : Int) : Int) < (xs.length : Int))) rfl (fun q3 => ?_) (fun q3 => ?_)
  ·
    have a4 : ((i : Int) : Int) < (xs.length : Int) := of_decide_eq_true q3
    refine W.skip ?_
    refine W.seq ?_
    refine W.block ?_
    have hs' : Sl (sg σ b (98, cs)) 3 p (xs.map el) := hs.ext ((Ext.refl _).sg hf)
    obtain ⟨b5, o6, rfl, _⟩ := hs'.elem i (by omega) (0, 0, 0)
    refine W.region ?_
    refine L.v (o_move (v := (.slice (some ⟨b, 0, none⟩) xs.length xs.length)) rfl) ?_
    refine L.v (o_move (v := (.int .i64 (i : Int))) rfl) ?_
    refine L.v (o_move (v := (.slice (some ⟨b5, o6, none⟩) xs.length c)) rfl) ?_
    refine L.v (o_move (v := (.int .i64 (i : Int))) rfl) ?_
    refine L.v (o_indexAddr (b := b5) (off := o6) (n := xs.length) (c := c) i Try.underlying63 Try.sizeOf100 rfl rfl (by omega)) ?_
    refine L.v (o_loads (b := b5) (off := o6 + i * 3) (vs := [(.int .i64 ((xs.getD i (0, 0, 0)).1)), (.float .f32 ((xs.getD i (0, 0, 0)).2.1)), (.float .f32 ((xs.getD i (0, 0, 0)).2.2))]) Try.isAgg100 Try.sizeOf100 rfl rfl (Sl.at hs' i (by omega) (0, 0, 0))) ?_
    refine L.v (v := (.agg #[(.int .i64 ((xs.getD i (0, 0, 0)).1)), (.float .f32 ((xs.getD i (0, 0, 0)).2.1)), (.float .f32 ((xs.getD i (0, 0, 0)).2.2))])) (op_call [(.agg #[(.int .i64 ((xs.getD i (0, 0, 0)).1)), (.float .f32 ((xs.getD i (0, 0, 0)).2.1)), (.float .f32 ((xs.getD i (0, 0, 0)).2.2))])] Try.call72 rfl (toElem_c ((xs.getD i (0, 0, 0)).1) ((xs.getD i (0, 0, 0)).2.1) ((xs.getD i (0, 0, 0)).2.2))) ?_
    refine L.v (o_indexAddr (b := b) (off := 0) (n := xs.length) (c := xs.length) i Try.underlying66 Try.sizeOf98 rfl rfl (by omega)) ?_
    refine L.cons0 (o_stores (b := b) (off := 0 + i * 3) (vs := [(.int .i64 ((xs.getD i (0, 0, 0)).1)), (.float .f32 ((xs.getD i (0, 0, 0)).2.1)), (.float .f32 ((xs.getD i (0, 0, 0)).2.2))]) Try.sizeOf98 rfl rfl rfl (by simp [Value.oneCell']) (sg_eq _ _ _) (by have := hfl.1; rw [List.length_map] at this; show 0 + i * 3 + 3 ≤ _; omega) hw) ?_
    rintro _ _ ⟨rfl, rfl⟩
    rw [sg_sg, show 0 + i * 3 = i * 3 by omega]
    refine L.nil ?_
    refine W.region ?_
    refine L.v (o_move (v := (.int .i64 (i : Int))) rfl) ?_
    refine L.v (o_iadd (a := (i : Int)) (b := 1) (c := ((i + 1 : Nat) : Int)) rfl rfl (by rw [IntWalk.i64_in _ (by omega)]; try omega)) ?_
    refine L.v (o_assign (v := (.int .i64 (((i + 1 : Nat) : Int)))) rfl) ?_
    refine L.nil ?_
    exact ⟨_, (by omega), i + 1, wr cs (i * 3) (el (xs.getD i (0, 0, 0))), rfl, (by omega), (FillR.step hfl (el_get (by omega)) (el_all _)), ⟨rfl, rfl, rfl, trivial⟩, rfl⟩
  ·
    have a7 : ¬ (((i : Int) : Int) < (xs.length : Int)) := of_decide_eq_false q3
    refine W.exit ?_
    refine W.seq ?_
    refine W.region ?_
    refine L.v (o_move (v := (.slice (some ⟨b, 0, none⟩) xs.length xs.length)) rfl) ?_
    refine L.v (o_assign (v := (.slice (some ⟨b, 0, none⟩) xs.length xs.length)) rfl) ?_
    refine L.nil ?_
    refine W.ret ?_
    obtain rfl : i = xs.length := by omega
    exact RetK.one _ (.slice (some ⟨b, 0, none⟩) xs.length xs.length) rfl rfl (Ext.refl _) ⟨_, rfl, FillR.fs (by rw [List.length_map]; exact hfl) hf hw⟩

theorem eqElemS {w0 : World} {σ : Sg} (p q : Option Addr) (c d : Nat) (xs : List (Int × Nat × Nat)) (hs : Sl σ 3 p (xs.map el)) (hq : Sl σ 3 q (xs.map el)) (hn : xs.length ≤ 1048576) :
    FnV Try.prog w0 43 [(.slice p xs.length c), (.slice q xs.length d)] σ (.bool true) := by
  unfold FnV
  refine Fn.of_W 27 Try.func43 rfl Try.ntmps43 rfl ?_
  refine W.seq ?_
  refine W.region ?_
  refine L.v (o_assign (v := (.bool false)) rfl) ?_
  refine L.nil ?_
  refine W.seq ?_
  refine W.seq ?_
  refine W.region ?_
  refine L.v (o_move (v := (.slice p xs.length c)) rfl) ?_
  refine L.v (o_len (p := p) (n := xs.length) (c := c) Try.underlying66 rfl) ?_
  refine L.v (o_move (v := (.slice q xs.length d)) rfl) ?_
  refine L.v (o_len (p := q) (n := xs.length) (c := d) Try.underlying66 rfl) ?_
  refine L.v (o_ineq (a := (xs.length : Int)) (b := (xs.length : Int)) (c := false) rfl rfl (by simp)) ?_
  refine L.nil ?_
  refine W.condF (b := false) rfl rfl ?_
  refine W.skip ?_
  refine W.seq ?_
  refine W.seq ?_
  refine W.region ?_
  refine L.v (o_assign (v := (.int .i64 0)) rfl) ?_
  refine L.nil ?_
  refine W.block ?_
  refine W.loop (fun nn tt ss => ∃ (i : Nat), nn = xs.length - i ∧ (i ≤ xs.length) ∧ FrOk tt [(0, (.slice p xs.length c)), (1, (.slice q xs.length d)), (5, (.int .i64 (i : Int)))] ∧ σ = ss) _ ⟨0, rfl, (by omega), ⟨rfl, rfl, rfl, trivial⟩, rfl⟩ ?_
  rintro _ t1 _ ⟨i, rfl, hi, f2, rfl⟩
  rw [← frame_ok f2]
  show W _ _ _ _ _ (upd (upd (upd t1 0 (.slice p xs.length c)) 1 (.slice q xs.length d)) 5 (.int .i64 (i : Int))) _
  refine W.seq ?_
  refine W.seq ?_
  refine W.region ?_
  refine L.v (o_move (v := (.int .i64 (i : Int))) rfl) ?_
  refine L.v (o_move (v := (.slice p xs.length c)) rfl) ?_
  refine L.v (o_len (p := p) (n := xs.length) (c := c) Try.underlying66 rfl) ?_
  refine L.v (o_ilss (a := (i : Int)) (b := (xs.length : Int)) rfl rfl rfl) ?_
  refine L.nil ?_
  refine W.cond (b := decide (((i : Int) : Int) < (xs.length : Int))) rfl (fun q3 => ?_) (fun q3 => ?_)
  ·
    have a4 : ((i : Int) : Int) < (xs.length : Int) := of_decide_eq_true q3
    refine W.skip ?_
    refine W.seq ?_
    refine W.block ?_
    refine W.seq ?_
    obtain ⟨b5, o6, rfl, _⟩ := hs.elem i (by omega) (0, 0, 0)
    obtain ⟨b7, o8, rfl, _⟩ := hq.elem i (by omega) (0, 0, 0)
    refine W.draw [true, true, true, true, true, true, true, true, true, true] (fun s => Ext σ s) (by kernel_rfl) (by kernel_rfl) ?_
    refine DL.v (fun _ hD => o_move (v := (.slice (some ⟨b5, o6, none⟩) xs.length c)) rfl) ?_
    refine DL.v (fun _ hD => o_move (v := (.int .i64 (i : Int))) rfl) ?_
    refine DL.v (fun _ hD => o_indexAddr (b := b5) (off := o6) (n := xs.length) (c := c) i Try.underlying66 Try.sizeOf98 rfl rfl (by omega)) ?_
    refine DL.v (fun _ hD => o_loads (b := b5) (off := o6 + i * 3) (vs := [(.int .i64 ((xs.getD i (0, 0, 0)).1)), (.float .f32 ((xs.getD i (0, 0, 0)).2.1)), (.float .f32 ((xs.getD i (0, 0, 0)).2.2))]) Try.isAgg98 Try.sizeOf98 rfl rfl (Sl.at (Sl.ext hs hD) i (by omega) (0, 0, 0))) ?_
    refine DL.v (fun _ hD => o_move (v := (.slice (some ⟨b7, o8, none⟩) xs.length d)) rfl) ?_
    refine DL.v (fun _ hD => o_move (v := (.int .i64 (i : Int))) rfl) ?_
    refine DL.v (fun _ hD => o_indexAddr (b := b7) (off := o8) (n := xs.length) (c := d) i Try.underlying66 Try.sizeOf98 rfl rfl (by omega)) ?_
    refine DL.v (fun _ hD => o_loads (b := b7) (off := o8 + i * 3) (vs := [(.int .i64 ((xs.getD i (0, 0, 0)).1)), (.float .f32 ((xs.getD i (0, 0, 0)).2.1)), (.float .f32 ((xs.getD i (0, 0, 0)).2.2))]) Try.isAgg98 Try.sizeOf98 rfl rfl (Sl.at (Sl.ext hq hD) i (by omega) (0, 0, 0))) ?_
    refine DL.v (v := (.bool true)) (fun _ hD => op_call [(.agg #[(.int .i64 ((xs.getD i (0, 0, 0)).1)), (.float .f32 ((xs.getD i (0, 0, 0)).2.1)), (.float .f32 ((xs.getD i (0, 0, 0)).2.2))]), (.agg #[(.int .i64 ((xs.getD i (0, 0, 0)).1)), (.float .f32 ((xs.getD i (0, 0, 0)).2.1)), (.float .f32 ((xs.getD i (0, 0, 0)).2.2))])] Try.call77 rfl (eqElem_c ((xs.getD i (0, 0, 0)).1) ((xs.getD i (0, 0, 0)).2.1) ((xs.getD i (0, 0, 0)).2.2))) ?_
    refine DL.v (fun _ hD => o_not (b := true) (c := false) rfl rfl) ?_
    refine DL.nil (Ext.refl _) ?_
    refine W.condF (b := false) rfl rfl ?_
    refine W.skip ?_
    refine W.region ?_
    refine L.v (o_move (v := (.int .i64 (i : Int))) rfl) ?_
    refine L.v (o_iadd (a := (i : Int)) (b := 1) (c := ((i + 1 : Nat) : Int)) rfl rfl (by rw [IntWalk.i64_in _ (by omega)]; try omega)) ?_
    refine L.v (o_assign (v := (.int .i64 (((i + 1 : Nat) : Int)))) rfl) ?_
    refine L.nil ?_
    exact ⟨_, (by omega), i + 1, rfl, (by omega), ⟨rfl, rfl, rfl, trivial⟩, rfl⟩
  ·
    have a9 : ¬ (((i : Int) : Int) < (xs.length : Int)) := of_decide_eq_false q3
    refine W.exit ?_
    refine W.seq ?_
    refine W.region ?_
    refine L.v (o_assign (v := (.bool true)) rfl) ?_
    refine L.nil ?_
    refine W.ret ?_
    exact RetK.one σ (.bool true) rfl rfl (Ext.refl _) ⟨by first | rfl | (exfalso; omega) | (exact absurd rfl (by assumption)), rfl⟩

end Go.Proofs.Ytnonlibekcacgaa.En
