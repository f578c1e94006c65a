/- IsStable in the program and in the reference, and its law. -/
import Derived.Test.YtpgmpjejfpmnoaaEngU
import Derived.Test.YtpgmpjejfpmnoaaMatr
import Derived.Test.YtpgmpjejfpmnoaaRows
namespace Go.Proofs.Ytpgmpjejfpmnoaa.En
open Go
set_option linter.unusedVariables false
theorem read_narrow {x : Nat} {s : Bool} {m : Nat} {e : Int} (h : Ieee.single.read x = .number s m e) (s' : Bool) : Ieee.single.nearest s' m e = Ieee.single.word s' (x % 2147483648) ∧ x % 2147483648 < 2139095040 := by
  obtain ⟨eb, ei, el, ef, es⟩ := sE
  unfold Ieee.Format.read at h
  dsimp only at h
  rw [eb, ei, el, es] at h
  have hr := Nat.mod_lt x (show 0 < 2147483648 by decide)
  generalize x % 2147483648 = r at *
  split at h
  · rename_i hlt
    simp only [Ieee.Datum.number.injEq] at h
    obtain ⟨_, hm, he⟩ := h
    subst he
    rw [← hm]
    refine ⟨?_, by omega⟩
    unfold Ieee.Format.nearest
    by_cases h0 : r = 0
    · subst h0; rw [if_pos rfl]
    · rw [if_neg h0]
      dsimp only
      have hl : r.log2 ≤ 22 := by have := (Nat.log2_lt h0 (k := 23)).2 (by simpa using hlt); omega
      simp only [eb, ei, el, ef]
      rw [show max (-149 + (r.log2 : Int) - (23 : Nat)) (-149) = -149 by omega]
      simp only [Int.sub_self, Int.toNat_zero, Nat.shiftLeft_zero, cut_zero, Nat.zero_mul, Nat.zero_add]
      rw [Nat.min_eq_left (by omega)]
  · split at h
    · rename_i hge hlt
      simp only [Ieee.Datum.number.injEq] at h
      obtain ⟨_, hm, he⟩ := h
      subst he
      rw [← hm]
      refine ⟨?_, by omega⟩
      unfold Ieee.Format.nearest
      have h0 : 8388608 + r % 8388608 ≠ 0 := by omega
      rw [if_neg h0]
      dsimp only
      have hl : (8388608 + r % 8388608).log2 = 23 := by
        have h1 : 23 ≤ (8388608 + r % 8388608).log2 := (Nat.le_log2 h0).2 (by show 8388608 ≤ _; omega)
        have h2 := (Nat.log2_lt h0 (k := 24)).2 (by show _ < 16777216; omega)
        omega
      simp only [eb, ei, el, ef, hl]
      rw [show max (-149 + ((r / 8388608 - 1 : Nat) : Int) + ((23 : Nat) : Int) - (23 : Nat)) (-149) = -149 + ((r / 8388608 - 1 : Nat) : Int) by omega]
      simp only [Int.sub_self, Int.toNat_zero, Nat.shiftLeft_zero, cut_zero]
      rw [show (-149 + ((r / 8388608 - 1 : Nat) : Int) - -149).toNat = r / 8388608 - 1 by omega, Nat.min_eq_left (by omega)]
      exact congrArg (Ieee.single.word s') (by omega)
    · split at h
      · exact Ieee.Datum.noConfusion h
      · exact Ieee.Datum.noConfusion h
theorem read_abs64 {t : Nat} {s : Bool} {m : Nat} {e : Int} (h : Ieee.double.read t = .number s m e) : Ieee.double.read (absF t) = .number false m e := by
  obtain ⟨eb, ei, el, ef, es⟩ := dE
  rw [absF_eq]
  unfold Ieee.Format.read at h ⊢
  dsimp only at h ⊢
  rw [eb, ei, el, es] at h ⊢
  have hd : t % 9223372036854775808 / 9223372036854775808 = 0 := Nat.div_eq_of_lt (Nat.mod_lt _ (by decide))
  rw [Nat.mod_mod, hd, show ((0 % 2 : Nat) == 1) = false from rfl]
  generalize t % 9223372036854775808 = r at *
  split at h
  · rename_i hlt
    simp only [Ieee.Datum.number.injEq] at h
    rw [if_pos hlt, h.2.1, h.2.2]
  · rename_i hge
    rw [if_neg hge]
    split at h
    · rename_i hlt
      simp only [Ieee.Datum.number.injEq] at h
      rw [if_pos hlt, h.2.1, h.2.2]
    · split at h
      · exact Ieee.Datum.noConfusion h
      · exact Ieee.Datum.noConfusion h
def absS (x : Nat) : Nat := cvt .f64 .f32 (absF (cvt .f32 .f64 x))
theorem absS_num {x : Nat} {s : Bool} {m : Nat} {e : Int} (h : Ieee.single.read x = .number s m e) (hm : m < 16777216) (he : -149 ≤ e ∧ e ≤ 104) : absS x = x % 2147483648 ∧ okcvt .f64 .f32 (absF (cvt .f32 .f64 x)) = true := by
  obtain ⟨hc, hv⟩ := wide h hm he
  obtain ⟨s', m', e', hr, he', hx⟩ := read_some hv
  have ha := read_abs64 hr
  have hmm : m' * 2 ^ (e' + 1074).toNat = m * 2 ^ (e + 1074).toNat := by
    have := congrArg Int.natAbs hx
    rw [signed_abs, signed_abs] at this
    exact this.symm
  have hn : Ieee.single.nearest false m' e' = Ieee.single.nearest false m e := by
    refine nearest_same _ _ ?_
    have hp := Nat.two_pow_pos (min e' e + 1074).toNat
    refine Nat.eq_of_mul_eq_mul_right hp ?_
    rw [Nat.mul_assoc, Nat.mul_assoc, ← Nat.pow_add, ← Nat.pow_add, show (e' - min e' e).toNat + (min e' e + 1074).toNat = (e' + 1074).toNat by omega, show (e - min e' e).toNat + (min e' e + 1074).toNat = (e + 1074).toNat by omega]
    exact hmm
  obtain ⟨hw, hlt⟩ := read_narrow h false
  have hval : FloatKind.f32.encode (.number false m' e') = x % 2147483648 := by
    show Ieee.single.nearest false m' e' = _
    rw [hn, hw]; rfl
  have hinf : (FloatKind.f32.decode (x % 2147483648)).isInfinity = false := by
    show (Ieee.single.read (x % 2147483648)).isInfinity = false
    have := isInf_word Ieee.single (by decide) false (x % 2147483648) (by rw [sE.2.1]; exact hlt)
    exact this
  have hd : FloatKind.f64.decode (absF (cvt .f32 .f64 x)) = .number false m' e' := ha
  have hf : floatToFloatBits .f64 (absF (cvt .f32 .f64 x)) .f32 = some (x % 2147483648) := by
    unfold floatToFloatBits
    rw [if_neg (by decide), hd]
    simp only
    rw [hval, hinf]; rfl
  exact ⟨by show (floatToFloatBits .f64 (absF (cvt .f32 .f64 x)) .f32).getD _ = _; rw [hf]; rfl, by unfold okcvt; rw [hf]; simp⟩
theorem ok_abs (x : Nat) : okcvt .f64 .f32 (absF (cvt .f32 .f64 x)) = true := by
  rcases read_single x with ⟨s, t, h⟩ | ⟨s, h⟩ | ⟨s, m, e, h, hm, he⟩
  · rw [wide_nan h]; decide +kernel
  · have hd : FloatKind.f32.decode x = .infinity s := h
    have hc : cvt .f32 .f64 x = FloatKind.f64.encode (.infinity s) := by
      unfold cvt floatToFloatBits
      rw [if_neg (by decide), hd]; rfl
    rw [hc]
    cases s <;> decide +kernel
  · exact (absS_num h hm he).2
def sizeF (x : Nat) : Nat := if fcmp .leq .f32 x 0 = true then fop .sub .f32 0 x else x
theorem fcmp_read {op : BinOp} {k : FloatKind} {a b c : Nat} (h : k.format.read a = k.format.read b) : fcmp op k a c = fcmp op k b c := by
  have : k.format.order a c = k.format.order b c := by unfold Ieee.Format.order; rw [h]
  unfold fcmp; rw [this]
theorem stab_eq (x : Nat) : fcmp .lss .f32 (absS x) 1073741824 = fcmp .lss .f32 (sizeF x) 1073741824 := by
  have h0 : Ieee.single.read 0 = .number false 0 (-149) := by decide +kernel
  rcases read_single x with ⟨s, t, h⟩ | ⟨s, h⟩ | ⟨s, m, e, h, hm, he⟩
  · have hn : isnan .f32 x = true := by
      have hd : FloatKind.f32.decode x = .nan s t := h
      simp [isnan, hd, Ieee.Datum.isNaN]
    have e1 : fcmp .leq .f32 x 0 = false := by unfold fcmp; rw [order_nan_left hn]; rfl
    unfold sizeF absS
    rw [wide_nan h, if_neg (by rw [e1]; decide)]
    have e2 : fcmp .lss .f32 x 1073741824 = false := by unfold fcmp; rw [order_nan_left hn]; rfl
    rw [e2]
    decide +kernel
  · have hd : FloatKind.f32.decode x = .infinity s := h
    have hc : cvt .f32 .f64 x = FloatKind.f64.encode (.infinity s) := by
      unfold cvt floatToFloatBits
      rw [if_neg (by decide), hd]; rfl
    have e1 : fcmp .leq .f32 x 0 = s := by
      unfold fcmp
      have : FloatKind.f32.format.order x 0 = some (if s then .lt else .gt) := by
        show (Ieee.single.read x).order (Ieee.single.read 0) = _
        rw [h, h0]; rfl
      rw [this]
      cases s <;> rfl
    unfold sizeF absS
    rw [hc, e1]
    cases s
    · have e2 : fcmp .lss .f32 x 1073741824 = fcmp .lss .f32 2139095040 1073741824 := fcmp_read (k := .f32) (by show Ieee.single.read x = Ieee.single.read 2139095040; rw [h]; decide +kernel)
      rw [if_neg (by decide), e2]
      decide +kernel
    · rw [if_pos rfl]
      have e2 : fop .sub .f32 0 x = 2139095040 := by
        unfold fop
        show (((Ieee.single.read 0).sum (Ieee.single.read x).opposite).map Ieee.single.write).getD _ = _
        rw [h, h0]
        decide +kernel
      rw [e2]
      decide +kernel
  · rw [(absS_num h hm he).1]
    obtain ⟨hw, hlt⟩ := read_narrow h false
    unfold sizeF
    by_cases hle : fcmp .leq .f32 x 0 = true
    · rw [if_pos hle]
      have hs : s = true ∨ m = 0 := by
        unfold fcmp at hle
        have ho : FloatKind.f32.format.order x 0 = some (compare (Ieee.signed s m (e + 1074).toNat) (Ieee.signed false 0 ((-149 : Int) + 1074).toNat)) := by
          show (Ieee.single.read x).order (Ieee.single.read 0) = _
          rw [h, h0]; exact datum_order (by omega) (by omega)
        rw [ho, signed_zero] at hle
        have hl : Ieee.signed s m (e + 1074).toNat ≤ 0 := by
          rcases Int.lt_trichotomy (Ieee.signed s m (e + 1074).toNat) 0 with h1 | h1 | h1
          · omega
          · omega
          · rw [Int.compare_eq_gt.2 h1] at hle; cases hle
        cases s
        · right
          have h2 := signed_nonneg m (e + 1074).toNat
          have h3 := signed_abs false m (e + 1074).toNat
          rw [show Ieee.signed false m (e + 1074).toNat = 0 by omega] at h3
          rcases Nat.mul_eq_zero.1 h3.symm with h4 | h4
          · exact h4
          · have := Nat.two_pow_pos (e + 1074).toNat; omega
        · exact .inl rfl
      have e2 : fop .sub .f32 0 x = x % 2147483648 := by
        unfold fop
        show (((Ieee.single.read 0).sum (Ieee.single.read x).opposite).map Ieee.single.write).getD _ = _
        rw [h, h0]
        have ht : Ieee.signed false 0 ((-149 : Int) - min (-149) e).toNat + Ieee.signed (!s) m (e - min (-149) e).toNat = ((m * 2 ^ (e + 149).toNat : Nat) : Int) := by
          rw [signed_zero, Int.zero_add, show (e - min (-149) e).toNat = (e + 149).toNat by omega]
          rcases hs with rfl | rfl
          · unfold Ieee.signed; rw [Nat.shiftLeft_eq]; rfl
          · rw [signed_zero]; simp
        have hsum : Ieee.Datum.sum (.number false 0 (-149)) (Ieee.Datum.opposite (.number s m e)) = some (.number false (m * 2 ^ (e + 149).toNat) (-149)) := by
          show some (Ieee.Datum.number _ _ _) = _
          rw [ht, show min (-149) e = -149 by omega, Int.natAbs_natCast]
          congr 2
          split
          · rfl
          · exact decide_eq_false (by have := Int.natCast_nonneg (m * 2 ^ (e + 149).toNat); omega)
        rw [hsum]
        show Ieee.single.nearest false (m * 2 ^ (e + 149).toNat) (-149) = _
        have := nearest_scale Ieee.single false m (e + 149).toNat e
        rw [show e - ((e + 149).toNat : Int) = -149 by omega] at this
        rw [this, hw]; rfl
      rw [e2]
    · rw [if_neg hle]
      have hs : s = false := by
        cases s
        · rfl
        · exfalso
          refine hle ?_
          unfold fcmp
          have ho : FloatKind.f32.format.order x 0 = some (compare (Ieee.signed true m (e + 1074).toNat) (Ieee.signed false 0 ((-149 : Int) + 1074).toNat)) := by
            show (Ieee.single.read x).order (Ieee.single.read 0) = _
            rw [h, h0]; exact datum_order (by omega) (by omega)
          rw [ho, signed_zero]
          have := signed_nonpos m (e + 1074).toNat
          rcases Int.lt_trichotomy (Ieee.signed true m (e + 1074).toNat) 0 with h1 | h1 | h1
          · rw [Int.compare_eq_lt.2 h1]; rfl
          · rw [Int.compare_eq_eq.2 h1]; rfl
          · omega
      subst hs
      refine fcmp_read (k := .f32) ?_
      show Ieee.single.read (x % 2147483648) = Ieee.single.read x
      have h1 := read_word Ieee.single false (x % 2147483648) (by rw [sE.2.2.2.2]; exact Nat.mod_lt _ (by decide))
      have h2 : Ieee.single.read x = Ieee.single.read (Ieee.single.word false (x % 2147483648)) := by
        rw [h1]
        have h3 := h
        unfold Ieee.Format.read at h3
        dsimp only at h3
        rw [sE.2.2.2.2] at h3
        rw [h]
        split at h3
        · rename_i hl
          simp only [Ieee.Datum.number.injEq] at h3
          rw [if_pos hl, h3.2.1, h3.2.2]
        · rename_i hl
          rw [if_neg hl]
          split at h3
          · rename_i hl2
            simp only [Ieee.Datum.number.injEq] at h3
            rw [if_pos hl2, h3.2.1, h3.2.2]
          · split at h3 <;> cases h3
      rw [h2]; rfl
def stabF (ms : List Nat) : Bool := fcmp .lss .f32 (sizeF (fop .add .f32 (ms.getD 0 0) (ms.getD 3 0))) 1073741824
def stableF (xs : List (Int × Nat × Nat)) : Bool := lineOk xs && stabF (matTo xs xs.length)
theorem stableF_no {xs : List (Int × Nat × Nat)} (h : lineOk xs = false) : stableF xs = false := by rw [stableF, h]; rfl
theorem stableF_yes {xs : List (Int × Nat × Nat)} (h : lineOk xs = true) : stableF xs = stabF (matTo xs xs.length) := by rw [stableF, h]; rfl
theorem absC {w0 : World} {σ : Sg} (t : Nat) :
    FnV Try.prog w0 74 [(.float .f64 t)] σ (.float .f64 (absF t)) := by
  unfold FnV
  refine Fn.of_W 7 Try.func74 rfl Try.ntmps74 rfl ?_
  refine W.seq ?_
  refine W.region ?_
  refine L.v (o_assign (v := (.float .f64 0)) rfl) ?_
  refine L.nil ?_
  refine W.seq ?_
  refine W.region ?_
  refine L.v (o_move (v := (.float .f64 t)) rfl) ?_
  refine L.cons (o_bits Try.func78 (by kernel_rfl) (by kernel_rfl) (by kernel_rfl) (by kernel_rfl) rfl) ?_
  rintro _ s9 ⟨⟨b', hb', rfl⟩, h9⟩
  rw [h9]
  refine L.v (o_iandNot (c := absI b') rfl rfl rfl) ?_
  refine L.v (o_unbits (b := t) Try.func77 (by kernel_rfl) (by kernel_rfl) (by kernel_rfl) (by kernel_rfl) rfl hb') ?_
  refine L.v (o_assign (v := (.float .f64 (absF t))) rfl) ?_
  refine L.nil ?_
  refine W.ret ?_
  exact RetK.one σ (.float .f64 (absF t)) rfl rfl (Ext.refl _) ⟨rfl, rfl⟩

theorem absoluteC {w0 : World} {σ : Sg} (x : Nat) :
    FnV Try.prog w0 61 [(.float .f32 x)] σ (.float .f32 (absS x)) := by
  unfold FnV
  refine Fn.of_W 7 Try.func61 rfl Try.ntmps61 rfl ?_
  refine W.seq ?_
  refine W.region ?_
  refine L.v (o_assign (v := (.float .f32 0)) rfl) ?_
  refine L.nil ?_
  refine W.seq ?_
  refine W.region ?_
  refine L.v (o_move (v := (.float .f32 x)) rfl) ?_
  refine L.v (o_cvFF (s := .f32) (d := .f64) (a := x) (by rw [Try.underlying56]; rfl) Try.underlying60 rfl (okw x)) ?_
  refine L.v (v := (.float .f64 (absF (cvt .f32 .f64 x)))) (op_call [(.float .f64 (cvt .f32 .f64 x))] Try.call74 rfl (absC (cvt .f32 .f64 x))) ?_
  refine L.v (o_cvFF (s := .f64) (d := .f32) (a := absF (cvt .f32 .f64 x)) (by rw [Try.underlying60]; rfl) Try.underlying56 rfl (ok_abs x)) ?_
  refine L.v (o_assign (v := (.float .f32 (cvt .f64 .f32 (absF (cvt .f32 .f64 x))))) rfl) ?_
  refine L.nil ?_
  refine W.ret ?_
  exact RetK.one σ (.float .f32 (cvt .f64 .f32 (absF (cvt .f32 .f64 x)))) rfl rfl (Ext.refl _) ⟨rfl, rfl⟩

theorem sizeC {w0 : World} {σ : Sg} (x : Nat) :
    FnV Try.prog w0 70 [(.float .f32 x)] σ (.float .f32 (sizeF x)) := by
  unfold FnV
  refine Fn.of_W 8 Try.func70 rfl Try.ntmps70 rfl ?_
  refine W.seq ?_
  refine W.region ?_
  refine L.v (o_assign (v := (.float .f32 0)) rfl) ?_
  refine L.nil ?_
  refine W.seq ?_
  refine W.seq ?_
  refine W.region ?_
  refine L.v (o_move (v := (.float .f32 x)) rfl) ?_
  refine L.v (o_fcmp (k := .f32) (a := x) (b := 0) rfl rfl rfl rfl) ?_
  refine L.nil ?_
  refine W.cond (b := fcmp .leq .f32 x 0) rfl (fun q1 => ?_) (fun q1 => ?_)
  ·
    refine W.seq ?_
    refine W.region ?_
    refine L.v (o_move (v := (.float .f32 x)) rfl) ?_
    refine L.v (o_farith (k := .f32) (a := 0) (b := x) rfl rfl rfl) ?_
    refine L.v (o_assign (v := (.float .f32 (fop .sub .f32 0 x))) rfl) ?_
    refine L.nil ?_
    refine W.ret ?_
    exact RetK.one σ (.float .f32 (fop .sub .f32 0 x)) rfl rfl (Ext.refl _) ⟨by first | (rw [sizeF, if_pos (by assumption)]; done) | (rw [sizeF, if_neg (by simp_all)]; done), rfl⟩
  ·
    refine W.skip ?_
    refine W.seq ?_
    refine W.region ?_
    refine L.v (o_move (v := (.float .f32 x)) rfl) ?_
    refine L.v (o_assign (v := (.float .f32 x)) rfl) ?_
    refine L.nil ?_
    refine W.ret ?_
    exact RetK.one σ (.float .f32 x) rfl rfl (Ext.refl _) ⟨by first | (rw [sizeF, if_pos (by assumption)]; done) | (rw [sizeF, if_neg (by simp_all)]; done), rfl⟩

theorem specStab {w0 : World} {σ : Sg} (p : Option Addr) (c : Nat) (ms : List Nat) (hs : Sl σ 1 p (ms.map fl)) (hl : ms.length = 4) :
    FnV Try.prog w0 58 [(.slice p 4 c)] σ (.bool (stabF ms)) := by
  unfold FnV
  refine Fn.of_W 12 Try.func58 rfl Try.ntmps58 rfl ?_
  refine W.seq ?_
  refine W.region ?_
  refine L.v (o_assign (v := (.bool false)) rfl) ?_
  refine L.nil ?_
  refine W.seq ?_
  obtain ⟨b1, o2, rfl, _⟩ := hs.elem 0 (by omega) 0
  refine W.draw [true, true, true, true, true, true, true, true, true, true] (fun s => s = σ) (by kernel_rfl) (by kernel_rfl) ?_
  refine DL.v (fun _ hD => by cases hD; exact o_move (v := (.slice (some ⟨b1, o2, none⟩) 4 c)) rfl) ?_
  refine DL.v (fun _ hD => by cases hD; exact o_indexAddr (b := b1) (off := o2) (n := 4) (c := c) 0 Try.underlying24 Try.sizeOf56 rfl rfl (by omega)) ?_
  refine DL.v (fun _ hD => by cases hD; exact o_load (b := b1) (off := o2 + 0 * 1) (v := (.float .f32 (ms.getD 0 0))) Try.isAgg56 rfl (Rds.fst (Sl.at hs 0 (by omega) 0)) rfl) ?_
  refine DL.v (fun _ hD => by cases hD; exact o_move (v := (.slice (some ⟨b1, o2, none⟩) 4 c)) rfl) ?_
  refine DL.v (fun _ hD => by cases hD; exact o_indexAddr (b := b1) (off := o2) (n := 4) (c := c) 3 Try.underlying24 Try.sizeOf56 rfl rfl (by omega)) ?_
  refine DL.v (fun _ hD => by cases hD; exact o_load (b := b1) (off := o2 + 3 * 1) (v := (.float .f32 (ms.getD 3 0))) Try.isAgg56 rfl (Rds.fst (Sl.at hs 3 (by omega) 0)) rfl) ?_
  refine DL.v (fun _ hD => by cases hD; exact o_farith (k := .f32) (a := ms.getD 0 0) (b := ms.getD 3 0) rfl rfl rfl) ?_
  refine DL.v (v := (.float .f32 (sizeF (fop .add .f32 (ms.getD 0 0) (ms.getD 3 0))))) (fun _ hD => by cases hD; exact op_call [(.float .f32 (fop .add .f32 (ms.getD 0 0) (ms.getD 3 0)))] Try.call70 rfl (sizeC (fop .add .f32 (ms.getD 0 0) (ms.getD 3 0)))) ?_
  refine DL.v (fun _ hD => by cases hD; exact o_fcmp (k := .f32) (a := sizeF (fop .add .f32 (ms.getD 0 0) (ms.getD 3 0))) (b := 1073741824) rfl rfl rfl rfl) ?_
  refine DL.v (fun _ hD => by cases hD; exact o_assign (v := (.bool (fcmp .lss .f32 (sizeF (fop .add .f32 (ms.getD 0 0) (ms.getD 3 0))) 1073741824))) rfl) ?_
  refine DL.nil rfl ?_
  refine W.ret ?_
  exact RetK.one σ (.bool (fcmp .lss .f32 (sizeF (fop .add .f32 (ms.getD 0 0) (ms.getD 3 0))) 1073741824)) rfl rfl (Ext.refl _) ⟨rfl, rfl⟩

theorem specIsSt {w0 : World} {σ : Sg} (p : Option Addr) (c : Nat) (xs : List (Int × Nat × Nat)) (hs : Sl σ 3 p (xs.map el)) (hn : xs.length ≤ 1048576) :
    FnV Try.prog w0 29 [(.slice p xs.length c)] σ (.bool (stableF xs)) := by
  unfold FnV
  refine Fn.of_W 10 Try.func29 rfl Try.ntmps29 rfl ?_
  refine W.seq ?_
  refine W.region ?_
  refine L.v (o_assign (v := (.bool false)) rfl) ?_
  refine L.nil ?_
  refine W.seq ?_
  refine W.region ?_
  refine L.v (o_move (v := (.slice p xs.length c)) rfl) ?_
  refine L.v (v := (.bool (lineOk xs))) (op_call [(.slice p xs.length c)] Try.call52 rfl (specLine p c xs hs (by omega))) ?_
  refine L.v (o_move (v := (.bool (lineOk xs))) rfl) ?_
  rcases Bool.eq_false_or_eq_true (lineOk xs) with q1 | q1
  ·
    refine L.gv (j := 2) (d₁ := 5) (b := lineOk xs) rfl rfl rfl q1 (o_move (v := (.slice p xs.length c)) rfl) ?_
    refine L.gT (j := 2) (d₁ := 5) (b := lineOk xs) rfl rfl rfl q1 (op_call [(.slice p xs.length c)] Try.call59 rfl (specMatrix p c xs hs (by omega))) ?_
    rintro _ s4 ⟨p2, c3, rfl, fs5⟩
    have ap6 : Apart (4) (xs.length) p2 p := by simpa using Fsl.apart fs5 hs (el_ne _)
    have hs7 := Sl.ext hs fs5.ext
    have ex8 := Ext.trans (Ext.refl σ) fs5.ext
    have mu9 := Fsl.mut fs5 (4) (by simp)
    refine L.gv (j := 2) (d₁ := 5) (b := lineOk xs) rfl rfl rfl q1 (v := (.bool (stabF (matTo xs xs.length)))) (op_call [(.slice p2 4 c3)] Try.call58 rfl (specStab p2 c3 (matTo xs xs.length) (Fsl.reads fs5) (matTo_len _ _))) ?_
    refine L.v (o_pickT (b := lineOk xs) (v := (.bool (stabF (matTo xs xs.length)))) rfl q1 rfl) ?_
    refine L.v (o_assign (v := (.bool (stabF (matTo xs xs.length)))) rfl) ?_
    refine L.nil ?_
    refine W.ret ?_
    exact RetK.one σ (.bool (stabF (matTo xs xs.length))) rfl rfl ex8 ⟨by first | (rw [stableF_no (by assumption)]; done) | (rw [stableF_no (bn_t (by assumption))]; done) | (rw [stableF_yes (by assumption)]; done), rfl⟩
  ·
    refine L.gF (j := 2) (d₁ := 5) (b := lineOk xs) rfl rfl rfl q1 ?_
    refine L.gF (j := 2) (d₁ := 5) (b := lineOk xs) rfl rfl rfl q1 ?_
    refine L.gF (j := 2) (d₁ := 5) (b := lineOk xs) rfl rfl rfl q1 ?_
    refine L.v (o_pickF (b := lineOk xs) (v := (.bool false)) rfl q1 rfl) ?_
    refine L.v (o_assign (v := (.bool false)) rfl) ?_
    refine L.nil ?_
    refine W.ret ?_
    exact RetK.one σ (.bool false) rfl rfl (Ext.refl _) ⟨by first | (rw [stableF_no (by assumption)]; done) | (rw [stableF_no (bn_t (by assumption))]; done) | (rw [stableF_yes (by assumption)]; done), rfl⟩

theorem implIsSt {w0 : World} {σ : Sg} (p : Option Addr) (c : Nat) (xs : List (Int × Nat × Nat)) (hs : Sl σ 3 p (xs.map el)) (hn : xs.length ≤ 1048576) :
    FnV Try.prog w0 30 [(.slice p xs.length c)] σ (.bool (stableF xs)) := by
  unfold FnV
  refine Fn.of_W 18 Try.func30 rfl Try.ntmps30 rfl ?_
  refine W.seq ?_
  refine W.region ?_
  refine L.v (o_assign (v := (.bool false)) rfl) ?_
  refine L.nil ?_
  refine W.seq ?_
  refine W.seq ?_
  refine W.region ?_
  refine L.v (o_move (v := (.slice p xs.length c)) rfl) ?_
  refine L.v (v := (.bool (lineOk xs))) (op_call [(.slice p xs.length c)] Try.call27 rfl (implValid p c xs hs (by omega))) ?_
  refine L.v (o_not (b := lineOk xs) rfl rfl) ?_
  refine L.nil ?_
  refine W.cond (b := !(lineOk xs)) rfl (fun q1 => ?_) (fun q1 => ?_)
  ·
    refine W.seq ?_
    refine W.region ?_
    refine L.v (o_assign (v := (.bool false)) rfl) ?_
    refine L.nil ?_
    refine W.ret ?_
    exact RetK.one σ (.bool false) rfl rfl (Ext.refl _) ⟨by rw [stableF_no (bn_t q1)], rfl⟩
  ·
    refine W.skip ?_
    refine W.seq ?_
    refine W.region ?_
    refine L.v (o_move (v := (.slice p xs.length c)) rfl) ?_
    refine L.cons (op_call [(.slice p xs.length c)] Try.call60 rfl (implMatrix p c xs hs (by omega))) ?_
    rintro _ s4 ⟨p2, c3, rfl, fs5⟩
    have ap6 : Apart (4) (xs.length) p2 p := by simpa using Fsl.apart fs5 hs (el_ne _)
    have hs7 := Sl.ext hs fs5.ext
    have ex8 := Ext.trans (Ext.refl σ) fs5.ext
    have mu9 := Fsl.mut fs5 (4) (by simp)
    refine L.v (o_assign (v := (.slice p2 4 c3)) rfl) ?_
    refine L.nil ?_
    refine W.seq ?_
    obtain ⟨b, o, rfl, _⟩ := (Fsl.reads fs5).elem 0 (by simp) 0
    refine W.draw [true, true, true, true, true, true, true, true, true, true] (fun s => s = s4) (by kernel_rfl) (by kernel_rfl) ?_
    refine DL.v (fun _ hD => by cases hD; exact o_move (v := (.slice (some ⟨b, o, none⟩) 4 c3)) rfl) ?_
    refine DL.v (fun _ hD => by cases hD; exact o_indexAddr (b := b) (off := o) (n := 4) (c := c3) 0 Try.underlying24 Try.sizeOf56 rfl rfl (by omega)) ?_
    refine DL.v (fun _ hD => by cases hD; exact o_load (b := b) (off := o + 0 * 1) (v := (.float .f32 ((matTo xs xs.length).getD 0 0))) Try.isAgg56 rfl (Rds.fst (Sl.at (Fsl.reads fs5) 0 (by simp) 0)) rfl) ?_
    refine DL.v (fun _ hD => by cases hD; exact o_move (v := (.slice (some ⟨b, o, none⟩) 4 c3)) rfl) ?_
    refine DL.v (fun _ hD => by cases hD; exact o_indexAddr (b := b) (off := o) (n := 4) (c := c3) 3 Try.underlying24 Try.sizeOf56 rfl rfl (by omega)) ?_
    refine DL.v (fun _ hD => by cases hD; exact o_load (b := b) (off := o + 3 * 1) (v := (.float .f32 ((matTo xs xs.length).getD 3 0))) Try.isAgg56 rfl (Rds.fst (Sl.at (Fsl.reads fs5) 3 (by simp) 0)) rfl) ?_
    refine DL.v (fun _ hD => by cases hD; exact o_farith (k := .f32) (a := (matTo xs xs.length).getD 0 0) (b := (matTo xs xs.length).getD 3 0) rfl rfl rfl) ?_
    refine DL.v (v := (.float .f32 (absS (fop .add .f32 ((matTo xs xs.length).getD 0 0) ((matTo xs xs.length).getD 3 0))))) (fun _ hD => by cases hD; exact op_call [(.float .f32 (fop .add .f32 ((matTo xs xs.length).getD 0 0) ((matTo xs xs.length).getD 3 0)))] Try.call61 rfl (absoluteC (fop .add .f32 ((matTo xs xs.length).getD 0 0) ((matTo xs xs.length).getD 3 0)))) ?_
    refine DL.v (fun _ hD => by cases hD; exact o_fcmp (k := .f32) (a := absS (fop .add .f32 ((matTo xs xs.length).getD 0 0) ((matTo xs xs.length).getD 3 0))) (b := 1073741824) rfl rfl rfl rfl) ?_
    refine DL.v (fun _ hD => by cases hD; exact o_assign (v := (.bool (fcmp .lss .f32 (absS (fop .add .f32 ((matTo xs xs.length).getD 0 0) ((matTo xs xs.length).getD 3 0))) 1073741824))) rfl) ?_
    refine DL.nil rfl ?_
    refine W.ret ?_
    exact RetK.one σ (.bool (fcmp .lss .f32 (absS (fop .add .f32 ((matTo xs xs.length).getD 0 0) ((matTo xs xs.length).getD 3 0))) 1073741824)) rfl rfl ex8 ⟨by rw [stableF_yes (bn_f q1), stabF, ← stab_eq], rfl⟩

theorem lawStable {w0 : World} {σ : Sg} (p : Option Addr) (c : Nat) (xs : List (Int × Nat × Nat)) (hs : Sl σ 3 p (xs.map el)) (hm : xs.length ≤ maxLen) :
    Fn Try.prog w0 7 [(.slice p xs.length c)] σ (fun u _ => u = .bool true) := by
  refine Fn.of_W 27 Try.func7 rfl Try.ntmps7 rfl ?_
  refine W.seq ?_
  refine W.region ?_
  refine L.v (o_assign (v := (.bool false)) rfl) ?_
  refine L.nil ?_
  refine W.seq ?_
  refine W.region ?_
  refine L.v (o_assign (v := (.int .i64 1048576)) rfl) ?_
  refine L.nil ?_
  refine W.seq ?_
  refine W.region ?_
  refine L.v (o_move (v := (.slice p xs.length c)) rfl) ?_
  refine L.v (o_move (v := (.int .i64 1048576)) rfl) ?_
  refine L.v (v := (.int .i64 (szF 1048576 xs.length))) (op_call [(.slice p xs.length c), (.int .i64 1048576)] Try.call24 rfl (szElem_c p xs.length c 1048576 hm (by decide))) ?_
  refine L.v (o_assign (v := (.int .i64 (szF 1048576 xs.length))) rfl) ?_
  refine L.nil ?_
  refine W.seq ?_
  refine W.seq ?_
  refine W.region ?_
  refine L.v (o_move (v := (.int .i64 (szF 1048576 xs.length))) rfl) ?_
  refine L.v (o_ilss (a := szF 1048576 xs.length) (b := 0) rfl rfl rfl) ?_
  refine L.nil ?_
  refine W.cond (b := decide ((szF 1048576 xs.length : Int) < 0)) rfl (fun q1 => ?_) (fun q1 => ?_)
  ·
    have a2 : (szF 1048576 xs.length : Int) < 0 := of_decide_eq_true q1
    refine W.seq ?_
    refine W.region ?_
    refine L.v (o_assign (v := (.bool true)) rfl) ?_
    refine L.nil ?_
    refine W.ret ?_
    exact RetK.one _ (.bool true) rfl rfl (Ext.refl _) rfl
  ·
    have a3 : ¬ ((szF 1048576 xs.length : Int) < 0) := of_decide_eq_false q1
    refine W.skip ?_
    refine W.seq ?_
    have hlen : xs.length ≤ 1048576 := szF_ok (by assumption)
    refine W.region ?_
    refine L.v (o_move (v := (.slice p xs.length c)) rfl) ?_
    refine L.cons (op_call [(.slice p xs.length c)] Try.call26 rfl (toElemS p c xs hs (by omega))) ?_
    rintro _ s6 ⟨p4, rfl, fs7⟩
    have ap8 : Apart (xs.length) (xs.length) p4 p := by simpa using Fsl.apart fs7 hs (el_ne _)
    have hs9 := Sl.ext hs fs7.ext
    have ex10 := Ext.trans (Ext.refl σ) fs7.ext
    have mu11 := Fsl.mut fs7 (xs.length * 3) (by simp)
    refine L.v (v := (.bool (stableF xs))) (op_call [(.slice p4 xs.length xs.length)] Try.call29 rfl (specIsSt p4 xs.length xs (Fsl.reads fs7) (by omega))) ?_
    refine L.v (o_assign (v := (.bool (stableF xs))) rfl) ?_
    refine L.nil ?_
    refine W.seq ?_
    refine W.region ?_
    refine L.v (o_move (v := (.slice p xs.length c)) rfl) ?_
    refine L.cons (op_call [(.slice p xs.length c)] Try.call26 rfl (toElemS p c xs hs9 (by omega))) ?_
    rintro _ s14 ⟨p12, rfl, fs15⟩
    have ap16 : Apart (xs.length) (xs.length) p12 p := by simpa using Fsl.apart fs15 hs9 (el_ne _)
    have ap17 : Apart (xs.length) (xs.length) p12 p4 := by simpa using Fsl.apart fs15 (Fsl.reads fs7) (el_ne _)
    have hs18 := Sl.ext hs9 fs15.ext
    have hs19 := Sl.ext (Fsl.reads fs7) fs15.ext
    have mu20 := Mut.ext mu11 fs15.ext
    have ex21 := Ext.trans ex10 fs15.ext
    have mu22 := Fsl.mut fs15 (xs.length * 3) (by simp)
    refine L.v (o_assign (v := (.slice p12 xs.length xs.length)) rfl) ?_
    refine L.nil ?_
    refine W.seq ?_
    refine W.region ?_
    refine L.v (o_move (v := (.slice p12 xs.length xs.length)) rfl) ?_
    refine L.v (v := (.bool (stableF xs))) (op_call [(.slice p12 xs.length xs.length)] Try.call30 rfl (implIsSt p12 xs.length xs (Fsl.reads fs15) (by omega))) ?_
    refine L.v (o_assign (v := (.bool (stableF xs))) rfl) ?_
    refine L.nil ?_
    refine W.seq ?_
    refine W.seq ?_
    refine W.region ?_
    refine L.v (o_move (v := (.bool (stableF xs))) rfl) ?_
    refine L.v (o_move (v := (.bool (stableF xs))) rfl) ?_
    refine L.v (o_bneq (a := stableF xs) (b := stableF xs) (c := false) Try.underlying4 rfl rfl (by simp)) ?_
    refine L.nil ?_
    refine W.condF (b := false) rfl rfl ?_
    refine W.skip ?_
    refine W.seq ?_
    refine W.seq ?_
    refine W.region ?_
    refine L.v (o_move (v := (.slice p12 xs.length xs.length)) rfl) ?_
    refine L.v (o_move (v := (.slice p xs.length c)) rfl) ?_
    refine L.cons (op_call [(.slice p xs.length c)] Try.call26 rfl (toElemS p c xs hs18 (by omega))) ?_
    rintro _ s25 ⟨p23, rfl, fs26⟩
    have ap27 : Apart (xs.length) (xs.length) p23 p := by simpa using Fsl.apart fs26 hs18 (el_ne _)
    have ap28 : Apart (xs.length) (xs.length) p23 p4 := by simpa using Fsl.apart fs26 hs19 (el_ne _)
    have ap29 : Apart (xs.length) (xs.length) p23 p12 := by simpa using Fsl.apart fs26 (Fsl.reads fs15) (el_ne _)
    have hs30 := Sl.ext hs18 fs26.ext
    have hs31 := Sl.ext hs19 fs26.ext
    have mu32 := Mut.ext mu20 fs26.ext
    have hs33 := Sl.ext (Fsl.reads fs15) fs26.ext
    have mu34 := Mut.ext mu22 fs26.ext
    have ex35 := Ext.trans ex21 fs26.ext
    have mu36 := Fsl.mut fs26 (xs.length * 3) (by simp)
    refine L.v (v := (.bool true)) (op_call [(.slice p12 xs.length xs.length), (.slice p23 xs.length xs.length)] Try.call28 rfl (eqElemS p12 p23 xs.length xs.length xs hs33 (Fsl.reads fs26) (by omega))) ?_
    refine L.v (o_not (b := true) (c := false) rfl rfl) ?_
    refine L.nil ?_
    refine W.condF (b := false) rfl rfl ?_
    refine W.skip ?_
    refine W.seq ?_
    refine W.region ?_
    refine L.v (o_assign (v := (.bool true)) rfl) ?_
    refine L.nil ?_
    refine W.ret ?_
    exact RetK.one _ (.bool true) rfl rfl (Ext.refl _) rfl

end Go.Proofs.Ytpgmpjejfpmnoaa.En
