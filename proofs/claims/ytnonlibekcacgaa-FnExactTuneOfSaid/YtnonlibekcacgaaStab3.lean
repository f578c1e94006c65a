/- What makes a line stable, in the program and in the reference. -/
import Derived.Test.YtnonlibekcacgaaMatr3
import Derived.Test.YtnonlibekcacgaaRows
namespace Go.Proofs.Ytnonlibekcacgaa.En
open Go
set_option linter.unusedVariables false
set_option maxRecDepth 100000
theorem read_narrow {x : Nat} {s : Bool} {m : Nat} {e : Int} (h : Ieee.single.read x = .number s m e) (s' : Bool) : Ieee.single.nearest s' m e = Ieee.single.word s' (x % 2147483648) ∧ x % 2147483648 < 2139095040 := by
  obtain ⟨eb, ei, el, ef, es⟩ := sE
  unfold Ieee.Format.read at h
  dsimp only at h
  rw [eb, ei, el, es] at h
  have hr := Nat.mod_lt x (show 0 < 2147483648 by decide)
  generalize x % 2147483648 = r at *
  split at h
  · rename_i hlt
    simp only [Ieee.Datum.number.injEq] at h
    obtain ⟨_, hm, he⟩ := h
    subst he
    rw [← hm]
    refine ⟨?_, by omega⟩
    unfold Ieee.Format.nearest
    by_cases h0 : r = 0
    · subst h0; rw [if_pos rfl]
    · rw [if_neg h0]
      dsimp only
      have hl : r.log2 ≤ 22 := by have := (Nat.log2_lt h0 (k := 23)).2 (by simpa using hlt); omega
      simp only [eb, ei, el, ef]
      rw [show max (-149 + (r.log2 : Int) - (23 : Nat)) (-149) = -149 by omega]
      simp only [Int.sub_self, Int.toNat_zero, Nat.shiftLeft_zero, cut_zero, Nat.zero_mul, Nat.zero_add]
      rw [Nat.min_eq_left (by omega)]
  · split at h
    · rename_i hge hlt
      simp only [Ieee.Datum.number.injEq] at h
      obtain ⟨_, hm, he⟩ := h
      subst he
      rw [← hm]
      refine ⟨?_, by omega⟩
      unfold Ieee.Format.nearest
      have h0 : 8388608 + r % 8388608 ≠ 0 := by omega
      rw [if_neg h0]
      dsimp only
      have hl : (8388608 + r % 8388608).log2 = 23 := by
        have h1 : 23 ≤ (8388608 + r % 8388608).log2 := (Nat.le_log2 h0).2 (by show 8388608 ≤ _; omega)
        have h2 := (Nat.log2_lt h0 (k := 24)).2 (by show _ < 16777216; omega)
        omega
      simp only [eb, ei, el, ef, hl]
      rw [show max (-149 + ((r / 8388608 - 1 : Nat) : Int) + ((23 : Nat) : Int) - (23 : Nat)) (-149) = -149 + ((r / 8388608 - 1 : Nat) : Int) by omega]
      simp only [Int.sub_self, Int.toNat_zero, Nat.shiftLeft_zero, cut_zero]
      rw [show (-149 + ((r / 8388608 - 1 : Nat) : Int) - -149).toNat = r / 8388608 - 1 by omega, Nat.min_eq_left (by omega)]
      exact congrArg (Ieee.single.word s') (by omega)
    · split at h
      · exact Ieee.Datum.noConfusion h
      · exact Ieee.Datum.noConfusion h
def absS (x : Nat) : Nat := cvt .f64 .f32 (absF (cvt .f32 .f64 x))
theorem absS_num {x : Nat} {s : Bool} {m : Nat} {e : Int} (h : Ieee.single.read x = .number s m e) (hm : m < 16777216) (he : -149 ≤ e ∧ e ≤ 104) : absS x = x % 2147483648 ∧ okcvt .f64 .f32 (absF (cvt .f32 .f64 x)) = true := by
  obtain ⟨hc, hv⟩ := wide h hm he
  obtain ⟨s', m', e', hr, he', hx⟩ := read_some hv
  have ha := read_abs64 hr
  have hmm : m' * 2 ^ (e' + 1074).toNat = m * 2 ^ (e + 1074).toNat := by
    have := congrArg Int.natAbs hx
    rw [signed_abs, signed_abs] at this
    exact this.symm
  have hn : Ieee.single.nearest false m' e' = Ieee.single.nearest false m e := by
    refine nearest_same _ _ ?_
    have hp := Nat.two_pow_pos (min e' e + 1074).toNat
    refine Nat.eq_of_mul_eq_mul_right hp ?_
    rw [Nat.mul_assoc, Nat.mul_assoc, ← Nat.pow_add, ← Nat.pow_add, show (e' - min e' e).toNat + (min e' e + 1074).toNat = (e' + 1074).toNat by omega, show (e - min e' e).toNat + (min e' e + 1074).toNat = (e + 1074).toNat by omega]
    exact hmm
  obtain ⟨hw, hlt⟩ := read_narrow h false
  have hval : FloatKind.f32.encode (.number false m' e') = x % 2147483648 := by
    show Ieee.single.nearest false m' e' = _
    rw [hn, hw]; rfl
  have hinf : (FloatKind.f32.decode (x % 2147483648)).isInfinity = false := by
    show (Ieee.single.read (x % 2147483648)).isInfinity = false
    have := isInf_word Ieee.single (by decide) false (x % 2147483648) (by rw [sE.2.1]; exact hlt)
    exact this
  have hd : FloatKind.f64.decode (absF (cvt .f32 .f64 x)) = .number false m' e' := ha
  have hf : floatToFloatBits .f64 (absF (cvt .f32 .f64 x)) .f32 = some (x % 2147483648) := by
    unfold floatToFloatBits
    rw [if_neg (by decide), hd]
    simp only
    rw [hval, hinf]; rfl
  exact ⟨by show (floatToFloatBits .f64 (absF (cvt .f32 .f64 x)) .f32).getD _ = _; rw [hf]; rfl, by unfold okcvt; rw [hf]; simp⟩
theorem ok_abs (x : Nat) : okcvt .f64 .f32 (absF (cvt .f32 .f64 x)) = true := by
  rcases read_single x with ⟨s, t, h⟩ | ⟨s, h⟩ | ⟨s, m, e, h, hm, he⟩
  · rw [wide_nan h]; decide +kernel
  · have hd : FloatKind.f32.decode x = .infinity s := h
    have hc : cvt .f32 .f64 x = FloatKind.f64.encode (.infinity s) := by
      unfold cvt floatToFloatBits
      rw [if_neg (by decide), hd]; rfl
    rw [hc]
    cases s <;> decide +kernel
  · exact (absS_num h hm he).2
def sizeF (x : Nat) : Nat := if fcmp .leq .f32 x 0 = true then fop .sub .f32 0 x else x
theorem fcmp_read {op : BinOp} {k : FloatKind} {a b c : Nat} (h : k.format.read a = k.format.read b) : fcmp op k a c = fcmp op k b c := by
  have : k.format.order a c = k.format.order b c := by unfold Ieee.Format.order; rw [h]
  unfold fcmp; rw [this]
theorem stab_eq (x : Nat) : fcmp .lss .f32 (absS x) 1073741824 = fcmp .lss .f32 (sizeF x) 1073741824 := by
  have h0 : Ieee.single.read 0 = .number false 0 (-149) := by decide +kernel
  rcases read_single x with ⟨s, t, h⟩ | ⟨s, h⟩ | ⟨s, m, e, h, hm, he⟩
  · have hn : isnan .f32 x = true := by
      have hd : FloatKind.f32.decode x = .nan s t := h
      simp [isnan, hd, Ieee.Datum.isNaN]
    have e1 : fcmp .leq .f32 x 0 = false := by unfold fcmp; rw [order_nan_left hn]; rfl
    unfold sizeF absS
    rw [wide_nan h, if_neg (by rw [e1]; decide)]
    have e2 : fcmp .lss .f32 x 1073741824 = false := by unfold fcmp; rw [order_nan_left hn]; rfl
    rw [e2]
    decide +kernel
  · have hd : FloatKind.f32.decode x = .infinity s := h
    have hc : cvt .f32 .f64 x = FloatKind.f64.encode (.infinity s) := by
      unfold cvt floatToFloatBits
      rw [if_neg (by decide), hd]; rfl
    have e1 : fcmp .leq .f32 x 0 = s := by
      unfold fcmp
      have : FloatKind.f32.format.order x 0 = some (if s then .lt else .gt) := by
        show (Ieee.single.read x).order (Ieee.single.read 0) = _
        rw [h, h0]; rfl
      rw [this]
      cases s <;> rfl
    unfold sizeF absS
    rw [hc, e1]
    cases s
    · have e2 : fcmp .lss .f32 x 1073741824 = fcmp .lss .f32 2139095040 1073741824 := fcmp_read (k := .f32) (by show Ieee.single.read x = Ieee.single.read 2139095040; rw [h]; decide +kernel)
      rw [if_neg (by decide), e2]
      decide +kernel
    · rw [if_pos rfl]
      have e2 : fop .sub .f32 0 x = 2139095040 := by
        unfold fop
        show (((Ieee.single.read 0).sum (Ieee.single.read x).opposite).map Ieee.single.write).getD _ = _
        rw [h, h0]
        decide +kernel
      rw [e2]
      decide +kernel
  · rw [(absS_num h hm he).1]
    obtain ⟨hw, hlt⟩ := read_narrow h false
    unfold sizeF
    by_cases hle : fcmp .leq .f32 x 0 = true
    · rw [if_pos hle]
      have hs : s = true ∨ m = 0 := by
        unfold fcmp at hle
        have ho : FloatKind.f32.format.order x 0 = some (compare (Ieee.signed s m (e + 1074).toNat) (Ieee.signed false 0 ((-149 : Int) + 1074).toNat)) := by
          show (Ieee.single.read x).order (Ieee.single.read 0) = _
          rw [h, h0]; exact datum_order (by omega) (by omega)
        rw [ho, signed_zero] at hle
        have hl : Ieee.signed s m (e + 1074).toNat ≤ 0 := by
          rcases Int.lt_trichotomy (Ieee.signed s m (e + 1074).toNat) 0 with h1 | h1 | h1
          · omega
          · omega
          · rw [Int.compare_eq_gt.2 h1] at hle; cases hle
        cases s
        · right
          have h2 := signed_nonneg m (e + 1074).toNat
          have h3 := signed_abs false m (e + 1074).toNat
          rw [show Ieee.signed false m (e + 1074).toNat = 0 by omega] at h3
          rcases Nat.mul_eq_zero.1 h3.symm with h4 | h4
          · exact h4
          · have := Nat.two_pow_pos (e + 1074).toNat; omega
        · exact .inl rfl
      have e2 : fop .sub .f32 0 x = x % 2147483648 := by
        unfold fop
        show (((Ieee.single.read 0).sum (Ieee.single.read x).opposite).map Ieee.single.write).getD _ = _
        rw [h, h0]
        have ht : Ieee.signed false 0 ((-149 : Int) - min (-149) e).toNat + Ieee.signed (!s) m (e - min (-149) e).toNat = ((m * 2 ^ (e + 149).toNat : Nat) : Int) := by
          rw [signed_zero, Int.zero_add, show (e - min (-149) e).toNat = (e + 149).toNat by omega]
          rcases hs with rfl | rfl
          · unfold Ieee.signed; rw [Nat.shiftLeft_eq]; rfl
          · rw [signed_zero]; simp
        have hsum : Ieee.Datum.sum (.number false 0 (-149)) (Ieee.Datum.opposite (.number s m e)) = some (.number false (m * 2 ^ (e + 149).toNat) (-149)) := by
          show some (Ieee.Datum.number _ _ _) = _
          rw [ht, show min (-149) e = -149 by omega, Int.natAbs_natCast]
          congr 2
          split
          · rfl
          · exact decide_eq_false (by have := Int.natCast_nonneg (m * 2 ^ (e + 149).toNat); omega)
        rw [hsum]
        show Ieee.single.nearest false (m * 2 ^ (e + 149).toNat) (-149) = _
        have := nearest_scale Ieee.single false m (e + 149).toNat e
        rw [show e - ((e + 149).toNat : Int) = -149 by omega] at this
        rw [this, hw]; rfl
      rw [e2]
    · rw [if_neg hle]
      have hs : s = false := by
        cases s
        · rfl
        · exfalso
          refine hle ?_
          unfold fcmp
          have ho : FloatKind.f32.format.order x 0 = some (compare (Ieee.signed true m (e + 1074).toNat) (Ieee.signed false 0 ((-149 : Int) + 1074).toNat)) := by
            show (Ieee.single.read x).order (Ieee.single.read 0) = _
            rw [h, h0]; exact datum_order (by omega) (by omega)
          rw [ho, signed_zero]
          have := signed_nonpos m (e + 1074).toNat
          rcases Int.lt_trichotomy (Ieee.signed true m (e + 1074).toNat) 0 with h1 | h1 | h1
          · rw [Int.compare_eq_lt.2 h1]; rfl
          · rw [Int.compare_eq_eq.2 h1]; rfl
          · omega
      subst hs
      refine fcmp_read (k := .f32) ?_
      show Ieee.single.read (x % 2147483648) = Ieee.single.read x
      have h1 := read_word Ieee.single false (x % 2147483648) (by rw [sE.2.2.2.2]; exact Nat.mod_lt _ (by decide))
      have h2 : Ieee.single.read x = Ieee.single.read (Ieee.single.word false (x % 2147483648)) := by
        rw [h1]
        have h3 := h
        unfold Ieee.Format.read at h3
        dsimp only at h3
        rw [sE.2.2.2.2] at h3
        rw [h]
        split at h3
        · rename_i hl
          simp only [Ieee.Datum.number.injEq] at h3
          rw [if_pos hl, h3.2.1, h3.2.2]
        · rename_i hl
          rw [if_neg hl]
          split at h3
          · rename_i hl2
            simp only [Ieee.Datum.number.injEq] at h3
            rw [if_pos hl2, h3.2.1, h3.2.2]
          · split at h3 <;> cases h3
      rw [h2]; rfl
def stabF (ms : List Nat) : Bool := fcmp .lss .f32 (sizeF (fop .add .f32 (ms.getD 0 0) (ms.getD 3 0))) 1073741824
def stableF (xs : List (Int × Nat × Nat)) : Bool := lineOk xs && stabF (matTo xs xs.length)
theorem stableF_no {xs : List (Int × Nat × Nat)} (h : lineOk xs = false) : stableF xs = false := by rw [stableF, h]; rfl
theorem stableF_yes {xs : List (Int × Nat × Nat)} (h : lineOk xs = true) : stableF xs = stabF (matTo xs xs.length) := by rw [stableF, h]; rfl
theorem absoluteC {w0 : World} {σ : Sg} (x : Nat) :
    FnV Try.prog w0 103 [(.float .f32 x)] σ (.float .f32 (absS x)) := by
  unfold FnV
  refine Fn.of_W 7 Try.func103 rfl Try.ntmps103 rfl ?_
  refine W.seq ?_
  refine W.region ?_
  refine L.v (o_assign (v := (.float .f32 0)) rfl) ?_
  refine L.nil ?_
  refine W.seq ?_
  refine W.region ?_
  refine L.v (o_move (v := (.float .f32 x)) rfl) ?_
  refine L.v (o_cvFF (s := .f32) (d := .f64) (a := x) (by rw [Try.underlying24]; rfl) Try.underlying30 rfl (okw x)) ?_
  refine L.v (v := (.float .f64 (absF (cvt .f32 .f64 x)))) (op_call [(.float .f64 (cvt .f32 .f64 x))] Try.call85 rfl (absC (cvt .f32 .f64 x))) ?_
  refine L.v (o_cvFF (s := .f64) (d := .f32) (a := absF (cvt .f32 .f64 x)) (by rw [Try.underlying30]; rfl) Try.underlying24 rfl (ok_abs x)) ?_
  refine L.v (o_assign (v := (.float .f32 (cvt .f64 .f32 (absF (cvt .f32 .f64 x))))) rfl) ?_
  refine L.nil ?_
  refine W.ret ?_
  exact RetK.one σ (.float .f32 (cvt .f64 .f32 (absF (cvt .f32 .f64 x)))) rfl rfl (Ext.refl _) ⟨rfl, rfl⟩

theorem sizeC {w0 : World} {σ : Sg} (x : Nat) :
    FnV Try.prog w0 99 [(.float .f32 x)] σ (.float .f32 (sizeF x)) := by
  unfold FnV
  refine Fn.of_W 8 Try.func99 rfl Try.ntmps99 rfl ?_
  refine W.seq ?_
  refine W.region ?_
  refine L.v (o_assign (v := (.float .f32 0)) rfl) ?_
  refine L.nil ?_
  refine W.seq ?_
  refine W.seq ?_
  refine W.region ?_
  refine L.v (o_move (v := (.float .f32 x)) rfl) ?_
  refine L.v (o_fcmp (k := .f32) (a := x) (b := 0) rfl rfl rfl rfl) ?_
  refine L.nil ?_
  refine W.cond (b := fcmp .leq .f32 x 0) rfl (fun q1 => ?_) (fun q1 => ?_)
  ·
    refine W.seq ?_
    refine W.region ?_
    refine L.v (o_move (v := (.float .f32 x)) rfl) ?_
    refine L.v (o_farith (k := .f32) (a := 0) (b := x) rfl rfl rfl) ?_
    refine L.v (o_assign (v := (.float .f32 (fop .sub .f32 0 x))) rfl) ?_
    refine L.nil ?_
    refine W.ret ?_
    exact RetK.one σ (.float .f32 (fop .sub .f32 0 x)) rfl rfl (Ext.refl _) ⟨by first | (rw [sizeF, if_pos (by assumption)]; done) | (rw [sizeF, if_neg (by simp_all)]; done), rfl⟩
  ·
    refine W.skip ?_
    refine W.seq ?_
    refine W.region ?_
    refine L.v (o_move (v := (.float .f32 x)) rfl) ?_
    refine L.v (o_assign (v := (.float .f32 x)) rfl) ?_
    refine L.nil ?_
    refine W.ret ?_
    exact RetK.one σ (.float .f32 x) rfl rfl (Ext.refl _) ⟨by first | (rw [sizeF, if_pos (by assumption)]; done) | (rw [sizeF, if_neg (by simp_all)]; done), rfl⟩

theorem specStab {w0 : World} {σ : Sg} (p : Option Addr) (c : Nat) (ms : List Nat) (hs : Sl σ 1 p (ms.map fl)) (hl : ms.length = 4) :
    FnV Try.prog w0 69 [(.slice p 4 c)] σ (.bool (stabF ms)) := by
  unfold FnV
  refine Fn.of_W 12 Try.func69 rfl Try.ntmps69 rfl ?_
  refine W.seq ?_
  refine W.region ?_
  refine L.v (o_assign (v := (.bool false)) rfl) ?_
  refine L.nil ?_
  refine W.seq ?_
  obtain ⟨b1, o2, rfl, _⟩ := hs.elem 0 (by omega) 0
  refine W.draw [true, true, true, true, true, true, true, true, true, true] (fun s => s = σ) (by kernel_rfl) (by kernel_rfl) ?_
  refine DL.v (fun _ hD => by cases hD; exact o_move (v := (.slice (some ⟨b1, o2, none⟩) 4 c)) rfl) ?_
  refine DL.v (fun _ hD => by cases hD; exact o_indexAddr (b := b1) (off := o2) (n := 4) (c := c) 0 Try.underlying32 Try.sizeOf24 rfl rfl (by omega)) ?_
  refine DL.v (fun _ hD => by cases hD; exact o_load (b := b1) (off := o2 + 0 * 1) (v := (.float .f32 (ms.getD 0 0))) Try.isAgg24 rfl (Rds.fst (Sl.at hs 0 (by omega) 0)) rfl) ?_
  refine DL.v (fun _ hD => by cases hD; exact o_move (v := (.slice (some ⟨b1, o2, none⟩) 4 c)) rfl) ?_
  refine DL.v (fun _ hD => by cases hD; exact o_indexAddr (b := b1) (off := o2) (n := 4) (c := c) 3 Try.underlying32 Try.sizeOf24 rfl rfl (by omega)) ?_
  refine DL.v (fun _ hD => by cases hD; exact o_load (b := b1) (off := o2 + 3 * 1) (v := (.float .f32 (ms.getD 3 0))) Try.isAgg24 rfl (Rds.fst (Sl.at hs 3 (by omega) 0)) rfl) ?_
  refine DL.v (fun _ hD => by cases hD; exact o_farith (k := .f32) (a := ms.getD 0 0) (b := ms.getD 3 0) rfl rfl rfl) ?_
  refine DL.v (v := (.float .f32 (sizeF (fop .add .f32 (ms.getD 0 0) (ms.getD 3 0))))) (fun _ hD => by cases hD; exact op_call [(.float .f32 (fop .add .f32 (ms.getD 0 0) (ms.getD 3 0)))] Try.call99 rfl (sizeC (fop .add .f32 (ms.getD 0 0) (ms.getD 3 0)))) ?_
  refine DL.v (fun _ hD => by cases hD; exact o_fcmp (k := .f32) (a := sizeF (fop .add .f32 (ms.getD 0 0) (ms.getD 3 0))) (b := 1073741824) rfl rfl rfl rfl) ?_
  refine DL.v (fun _ hD => by cases hD; exact o_assign (v := (.bool (fcmp .lss .f32 (sizeF (fop .add .f32 (ms.getD 0 0) (ms.getD 3 0))) 1073741824))) rfl) ?_
  refine DL.nil rfl ?_
  refine W.ret ?_
  exact RetK.one σ (.bool (fcmp .lss .f32 (sizeF (fop .add .f32 (ms.getD 0 0) (ms.getD 3 0))) 1073741824)) rfl rfl (Ext.refl _) ⟨rfl, rfl⟩

theorem implIsSt {w0 : World} {σ : Sg} (p : Option Addr) (c : Nat) (xs : List (Int × Nat × Nat)) (hs : Sl σ 3 p (xs.map el)) (hn : xs.length ≤ 1048576) :
    FnV Try.prog w0 73 [(.slice p xs.length c)] σ (.bool (stableF xs)) := by
  unfold FnV
  refine Fn.of_W 18 Try.func73 rfl Try.ntmps73 rfl ?_
  refine W.seq ?_
  refine W.region ?_
  refine L.v (o_assign (v := (.bool false)) rfl) ?_
  refine L.nil ?_
  refine W.seq ?_
  refine W.seq ?_
  refine W.region ?_
  refine L.v (o_move (v := (.slice p xs.length c)) rfl) ?_
  refine L.v (v := (.bool (lineOk xs))) (op_call [(.slice p xs.length c)] Try.call102 rfl (implValid p c xs hs (by omega))) ?_
  refine L.v (o_not (b := lineOk xs) rfl rfl) ?_
  refine L.nil ?_
  refine W.cond (b := !(lineOk xs)) rfl (fun q1 => ?_) (fun q1 => ?_)
  ·
    refine W.seq ?_
    refine W.region ?_
    refine L.v (o_assign (v := (.bool false)) rfl) ?_
    refine L.nil ?_
    refine W.ret ?_
    exact RetK.one σ (.bool false) rfl rfl (Ext.refl _) ⟨by rw [stableF_no (bn_t q1)], rfl⟩
  ·
    refine W.skip ?_
    refine W.seq ?_
    refine W.region ?_
    refine L.v (o_move (v := (.slice p xs.length c)) rfl) ?_
    refine L.cons (op_call [(.slice p xs.length c)] Try.call74 rfl (implMatrix p c xs hs (by omega))) ?_
    rintro _ s4 ⟨p2, c3, rfl, fs5⟩
    have ap6 : Apart (4) (xs.length) p2 p := by simpa using Fsl.apart fs5 hs (el_ne _)
    have hs7 := Sl.ext hs fs5.ext
    have ex8 := Ext.trans (Ext.refl σ) fs5.ext
    have mu9 := Fsl.mut fs5 (4) (by simp)
    refine L.v (o_assign (v := (.slice p2 4 c3)) rfl) ?_
    refine L.nil ?_
    refine W.seq ?_
    obtain ⟨b, o, rfl, _⟩ := (Fsl.reads fs5).elem 0 (by simp) 0
    refine W.draw [true, true, true, true, true, true, true, true, true, true] (fun s => s = s4) (by kernel_rfl) (by kernel_rfl) ?_
    refine DL.v (fun _ hD => by cases hD; exact o_move (v := (.slice (some ⟨b, o, none⟩) 4 c3)) rfl) ?_
    refine DL.v (fun _ hD => by cases hD; exact o_indexAddr (b := b) (off := o) (n := 4) (c := c3) 0 Try.underlying32 Try.sizeOf24 rfl rfl (by omega)) ?_
    refine DL.v (fun _ hD => by cases hD; exact o_load (b := b) (off := o + 0 * 1) (v := (.float .f32 ((matTo xs xs.length).getD 0 0))) Try.isAgg24 rfl (Rds.fst (Sl.at (Fsl.reads fs5) 0 (by simp) 0)) rfl) ?_
    refine DL.v (fun _ hD => by cases hD; exact o_move (v := (.slice (some ⟨b, o, none⟩) 4 c3)) rfl) ?_
    refine DL.v (fun _ hD => by cases hD; exact o_indexAddr (b := b) (off := o) (n := 4) (c := c3) 3 Try.underlying32 Try.sizeOf24 rfl rfl (by omega)) ?_
    refine DL.v (fun _ hD => by cases hD; exact o_load (b := b) (off := o + 3 * 1) (v := (.float .f32 ((matTo xs xs.length).getD 3 0))) Try.isAgg24 rfl (Rds.fst (Sl.at (Fsl.reads fs5) 3 (by simp) 0)) rfl) ?_
    refine DL.v (fun _ hD => by cases hD; exact o_farith (k := .f32) (a := (matTo xs xs.length).getD 0 0) (b := (matTo xs xs.length).getD 3 0) rfl rfl rfl) ?_
    refine DL.v (v := (.float .f32 (absS (fop .add .f32 ((matTo xs xs.length).getD 0 0) ((matTo xs xs.length).getD 3 0))))) (fun _ hD => by cases hD; exact op_call [(.float .f32 (fop .add .f32 ((matTo xs xs.length).getD 0 0) ((matTo xs xs.length).getD 3 0)))] Try.call103 rfl (absoluteC (fop .add .f32 ((matTo xs xs.length).getD 0 0) ((matTo xs xs.length).getD 3 0)))) ?_
    refine DL.v (fun _ hD => by cases hD; exact o_fcmp (k := .f32) (a := absS (fop .add .f32 ((matTo xs xs.length).getD 0 0) ((matTo xs xs.length).getD 3 0))) (b := 1073741824) rfl rfl rfl rfl) ?_
    refine DL.v (fun _ hD => by cases hD; exact o_assign (v := (.bool (fcmp .lss .f32 (absS (fop .add .f32 ((matTo xs xs.length).getD 0 0) ((matTo xs xs.length).getD 3 0))) 1073741824))) rfl) ?_
    refine DL.nil rfl ?_
    refine W.ret ?_
    exact RetK.one σ (.bool (fcmp .lss .f32 (absS (fop .add .f32 ((matTo xs xs.length).getD 0 0) ((matTo xs xs.length).getD 3 0))) 1073741824)) rfl rfl ex8 ⟨by rw [stableF_yes (bn_f q1), stabF, ← stab_eq], rfl⟩

end Go.Proofs.Ytnonlibekcacgaa.En
