/- WaveField in the program and in the reference, and its law. -/
import Derived.Test.YtnonlibekcacgaaFlts
import Derived.Test.YtnonlibekcacgaaSineA
import Derived.Test.YtnonlibekcacgaaRows
namespace Go.Proofs.Ytnonlibekcacgaa.En
open Go
set_option linter.unusedVariables false
set_option maxRecDepth 100000
def wv (w : Nat) (m : Int) (size turns x : Nat) : Nat := fop .mul .f32 size (sineA (fop .add .f32 (fop .mul .f32 (FloatKind.nearest .f32 m) (fop .quo .f32 (FloatKind.nearest .f32 (x : Int)) (FloatKind.nearest .f32 (w : Int)))) turns))
def flatW (f : Nat → Nat) (w : Nat) : Nat → List Nat
  | 0 => []
  | y + 1 => flatW f w y ++ (List.range w).map f
def waveL (f : Nat → Nat) (w y x : Nat) : List Nat := flatW f w y ++ (List.range x).map f
theorem flatW_len (f : Nat → Nat) (w : Nat) : ∀ y, (flatW f w y).length = y * w
  | 0 => by simp [flatW]
  | y + 1 => by rw [flatW, List.length_append, flatW_len f w y, List.length_map, List.length_range, Nat.succ_mul]
theorem waveL_len (f : Nat → Nat) (w y x : Nat) : (waveL f w y x).length = y * w + x := by rw [waveL, List.length_append, flatW_len, List.length_map, List.length_range]
theorem waveL_succ (f : Nat → Nat) (w y x : Nat) : waveL f w y (x + 1) = waveL f w y x ++ [f x] := by simp [waveL, List.range_succ]
theorem waveL_row (f : Nat → Nat) (w y : Nat) : waveL f w y w = waveL f w (y + 1) 0 := by simp [waveL, flatW]
def waveB (gx gy m : Int) (size turns : Nat) : Bool := decide ((4 ≤ gx ∧ gx ≤ 16) ∧ 4 ≤ gy ∧ gy ≤ 16) && (decide (0 ≤ m ∧ m ≤ gx) && (finB size && finB turns))
def waveF (gx gy m : Int) (size turns : Nat) : List Nat := if waveB gx gy m size turns = true then waveL (wv gx.toNat m size turns) gx.toNat gy.toNat 0 else []
theorem waveF_no {gx gy m : Int} {size turns : Nat} (h : waveB gx gy m size turns = false) : waveF gx gy m size turns = [] := if_neg (by rw [h]; decide)
theorem waveF_yes {w h : Nat} {m : Int} {size turns : Nat} (hc : waveB w h m size turns = true) : waveF w h m size turns = waveL (wv w m size turns) w h 0 := if_pos hc
theorem waveF_le (gx gy m : Int) (size turns : Nat) : (waveF gx gy m size turns).length ≤ 1048576 := by
  cases h : waveB gx gy m size turns with
  | false => rw [waveF_no h]; simp
  | true =>
    rw [waveF, if_pos h, waveL_len]
    simp only [waveB, Bool.and_eq_true, decide_eq_true_eq] at h
    have := Nat.mul_le_mul (show gy.toNat ≤ 16 by omega) (show gx.toNat ≤ 16 by omega)
    omega
theorem specWave {w0 : World} {σ : Sg} (gx gy m : Int) (size turns : Nat) :
    Fn Try.prog w0 15 [(.agg #[(.int .i64 gx), (.int .i64 gy)]), (.int .i64 m), (.float .f32 size), (.float .f32 turns)] σ (RetFS w0 σ 1 ((waveF gx gy m size turns).map fl) (waveF gx gy m size turns).length (fun v => .tuple #[v, .bool (waveB gx gy m size turns)])) := by
  refine Fn.of_W 65 Try.func15 rfl Try.ntmps15 rfl ?_
  refine W.seq ?_
  refine W.region ?_
  refine L.cons (o_box (v := (.agg #[(.int .i64 gx), (.int .i64 gy)])) rfl rfl [(.int .i64 gx), (.int .i64 gy)] rfl) ?_
  rintro _ _ ⟨b1, hf2, hw3, rfl, rfl⟩
  have fz7 := Ext.none (Ext.refl _) hf2
  have hb6 : (sg σ b1 (27, [(.int .i64 gx), (.int .i64 gy)])) b1 = some (27, [(.int .i64 gx), (.int .i64 gy)]) := sg_eq _ _ _
  have hx5 : Ext σ (sg σ b1 (27, [(.int .i64 gx), (.int .i64 gy)])) := (Ext.refl _).sg hf2
  have ehx5 := Ext.trans (Ext.refl _) hx5
  generalize hgs4 : sg σ b1 (27, [(.int .i64 gx), (.int .i64 gy)]) = s4 at *
  clear hgs4
  refine L.v (o_assign (v := (.slice none 0 0)) rfl) ?_
  refine L.v (o_assign (v := (.bool false)) rfl) ?_
  refine L.nil ?_
  refine W.seq ?_
  refine W.seq ?_
  refine W.region ?_
  refine L.v (v := (.bool (decide ((4 ≤ (gx : Int) ∧ (gx : Int) ≤ 16) ∧ 4 ≤ (gy : Int) ∧ (gy : Int) ≤ 16)))) (op_call [(.pointer (some ⟨b1, 0, none⟩))] Try.call46 rfl (specIs b1 _ gx gy hb6)) ?_
  refine L.v (o_not (b := decide ((4 ≤ (gx : Int) ∧ (gx : Int) ≤ 16) ∧ 4 ≤ (gy : Int) ∧ (gy : Int) ≤ 16)) rfl rfl) ?_
  refine L.v (o_move (v := (.bool (!(decide ((4 ≤ (gx : Int) ∧ (gx : Int) ≤ 16) ∧ 4 ≤ (gy : Int) ∧ (gy : Int) ≤ 16))))) rfl) ?_
  rcases Bool.eq_false_or_eq_true (!(decide ((4 ≤ (gx : Int) ∧ (gx : Int) ≤ 16) ∧ 4 ≤ (gy : Int) ∧ (gy : Int) ≤ 16))) with q8 | q8
  ·
    have a9 : ¬ ((4 ≤ (gx : Int) ∧ (gx : Int) ≤ 16) ∧ 4 ≤ (gy : Int) ∧ (gy : Int) ≤ 16) := of_decide_eq_false (bn_t q8)
    refine L.gF (j := 2) (d₁ := 16) (b := !(decide ((4 ≤ (gx : Int) ∧ (gx : Int) ≤ 16) ∧ 4 ≤ (gy : Int) ∧ (gy : Int) ≤ 16))) rfl rfl rfl q8 ?_
    refine L.gF (j := 2) (d₁ := 16) (b := !(decide ((4 ≤ (gx : Int) ∧ (gx : Int) ≤ 16) ∧ 4 ≤ (gy : Int) ∧ (gy : Int) ≤ 16))) rfl rfl rfl q8 ?_
    refine L.gF (j := 2) (d₁ := 16) (b := !(decide ((4 ≤ (gx : Int) ∧ (gx : Int) ≤ 16) ∧ 4 ≤ (gy : Int) ∧ (gy : Int) ≤ 16))) rfl rfl rfl q8 ?_
    refine L.gF (j := 2) (d₁ := 16) (b := !(decide ((4 ≤ (gx : Int) ∧ (gx : Int) ≤ 16) ∧ 4 ≤ (gy : Int) ∧ (gy : Int) ≤ 16))) rfl rfl rfl q8 ?_
    refine L.gF (j := 2) (d₁ := 16) (b := !(decide ((4 ≤ (gx : Int) ∧ (gx : Int) ≤ 16) ∧ 4 ≤ (gy : Int) ∧ (gy : Int) ≤ 16))) rfl rfl rfl q8 ?_
    refine L.v (o_pickT (b := !(decide ((4 ≤ (gx : Int) ∧ (gx : Int) ≤ 16) ∧ 4 ≤ (gy : Int) ∧ (gy : Int) ≤ 16))) (v := (.bool true)) rfl q8 rfl) ?_
    refine L.v (o_move (v := (.bool true)) rfl) ?_
    refine L.gF (j := 9) (d₁ := 23) (b := true) rfl rfl rfl rfl ?_
    refine L.gF (j := 9) (d₁ := 23) (b := true) rfl rfl rfl rfl ?_
    refine L.gF (j := 9) (d₁ := 23) (b := true) rfl rfl rfl rfl ?_
    refine L.v (o_pickT (b := true) (v := (.bool true)) rfl rfl rfl) ?_
    refine L.v (o_move (v := (.bool true)) rfl) ?_
    refine L.gF (j := 14) (d₁ := 28) (b := true) rfl rfl rfl rfl ?_
    refine L.gF (j := 14) (d₁ := 28) (b := true) rfl rfl rfl rfl ?_
    refine L.gF (j := 14) (d₁ := 28) (b := true) rfl rfl rfl rfl ?_
    refine L.v (o_pickT (b := true) (v := (.bool true)) rfl rfl rfl) ?_
    refine L.nil ?_
    refine W.condT (b := true) rfl rfl ?_
    refine W.seq ?_
    refine W.region ?_
    refine L.v (o_assign (v := (.slice none 0 0)) rfl) ?_
    refine L.v (o_assign (v := (.bool false)) rfl) ?_
    refine L.nil ?_
    refine W.ret ?_
    have hwn : waveB gx gy m size turns = false := (by unfold waveB; cases hfs : finB size <;> cases hft : finB turns <;> by_cases g1 : (4 ≤ gx ∧ gx ≤ 16) ∧ 4 ≤ gy ∧ gy ≤ 16 <;> by_cases g2 : 0 ≤ m ∧ m ≤ gx <;> simp_all <;> omega)
    exact RetK.two σ (.slice none 0 0) (.bool false) rfl rfl rfl rfl rfl ehx5 ⟨none, 0, by rw [waveF_no hwn, show waveB gx gy m size turns = false from hwn]; rfl, by rw [waveF_no hwn]; exact Fsl.nil 1⟩
  ·
    have a10 : (4 ≤ (gx : Int) ∧ (gx : Int) ≤ 16) ∧ 4 ≤ (gy : Int) ∧ (gy : Int) ≤ 16 := of_decide_eq_true (bn_f q8)
    refine L.gv (j := 2) (d₁ := 16) (b := !(decide ((4 ≤ (gx : Int) ∧ (gx : Int) ≤ 16) ∧ 4 ≤ (gy : Int) ∧ (gy : Int) ≤ 16))) rfl rfl rfl q8 (o_move (v := (.int .i64 m)) rfl) ?_
    refine L.gv (j := 2) (d₁ := 16) (b := !(decide ((4 ≤ (gx : Int) ∧ (gx : Int) ≤ 16) ∧ 4 ≤ (gy : Int) ∧ (gy : Int) ≤ 16))) rfl rfl rfl q8 (o_fieldAddr (b := b1) (off := 0) (o := 0) (run_fieldAt (f := 0) (fld := { name := "Wide", type := 2, offset := 0, embedded := false, tag := "", pkgPath := "", byteOffset := 0 }) Try.underlying27 rfl Try.sizeOf2 (Nat.succ_ne_zero _)) rfl) ?_
    refine L.gv (j := 2) (d₁ := 16) (b := !(decide ((4 ≤ (gx : Int) ∧ (gx : Int) ≤ 16) ∧ 4 ≤ (gy : Int) ∧ (gy : Int) ≤ 16))) rfl rfl rfl q8 (o_load (b := b1) (off := 0 + 0) (v := (.int .i64 gx)) Try.isAgg2 rfl (Rd.of hb6 rfl) rfl) ?_
    refine L.gv (j := 2) (d₁ := 16) (b := !(decide ((4 ≤ (gx : Int) ∧ (gx : Int) ≤ 16) ∧ 4 ≤ (gy : Int) ∧ (gy : Int) ≤ 16))) rfl rfl rfl q8 (v := (.bool (decide ((0 : Int) ≤ m ∧ (m : Int) ≤ gx)))) (op_call [(.int .i64 m), (.int .i64 0), (.int .i64 gx)] Try.call47 rfl (withinS m 0 gx)) ?_
    refine L.gv (j := 2) (d₁ := 16) (b := !(decide ((4 ≤ (gx : Int) ∧ (gx : Int) ≤ 16) ∧ 4 ≤ (gy : Int) ∧ (gy : Int) ≤ 16))) rfl rfl rfl q8 (o_not (b := decide ((0 : Int) ≤ m ∧ (m : Int) ≤ gx)) rfl rfl) ?_
    refine L.v (o_pickF (b := !(decide ((4 ≤ (gx : Int) ∧ (gx : Int) ≤ 16) ∧ 4 ≤ (gy : Int) ∧ (gy : Int) ≤ 16))) (v := (.bool (!(decide ((0 : Int) ≤ m ∧ (m : Int) ≤ gx))))) rfl q8 rfl) ?_
    refine L.v (o_move (v := (.bool (!(decide ((0 : Int) ≤ m ∧ (m : Int) ≤ gx))))) rfl) ?_
    rcases Bool.eq_false_or_eq_true (!(decide ((0 : Int) ≤ m ∧ (m : Int) ≤ gx))) with q11 | q11
    ·
      have a12 : ¬ ((0 : Int) ≤ m ∧ (m : Int) ≤ gx) := of_decide_eq_false (bn_t q11)
      refine L.gF (j := 9) (d₁ := 23) (b := !(decide ((0 : Int) ≤ m ∧ (m : Int) ≤ gx))) rfl rfl rfl q11 ?_
      refine L.gF (j := 9) (d₁ := 23) (b := !(decide ((0 : Int) ≤ m ∧ (m : Int) ≤ gx))) rfl rfl rfl q11 ?_
      refine L.gF (j := 9) (d₁ := 23) (b := !(decide ((0 : Int) ≤ m ∧ (m : Int) ≤ gx))) rfl rfl rfl q11 ?_
      refine L.v (o_pickT (b := !(decide ((0 : Int) ≤ m ∧ (m : Int) ≤ gx))) (v := (.bool true)) rfl q11 rfl) ?_
      refine L.v (o_move (v := (.bool true)) rfl) ?_
      refine L.gF (j := 14) (d₁ := 28) (b := true) rfl rfl rfl rfl ?_
      refine L.gF (j := 14) (d₁ := 28) (b := true) rfl rfl rfl rfl ?_
      refine L.gF (j := 14) (d₁ := 28) (b := true) rfl rfl rfl rfl ?_
      refine L.v (o_pickT (b := true) (v := (.bool true)) rfl rfl rfl) ?_
      refine L.nil ?_
      refine W.condT (b := true) rfl rfl ?_
      refine W.seq ?_
      refine W.region ?_
      refine L.v (o_assign (v := (.slice none 0 0)) rfl) ?_
      refine L.v (o_assign (v := (.bool false)) rfl) ?_
      refine L.nil ?_
      refine W.ret ?_
      have hwn : waveB gx gy m size turns = false := (by unfold waveB; cases hfs : finB size <;> cases hft : finB turns <;> by_cases g1 : (4 ≤ gx ∧ gx ≤ 16) ∧ 4 ≤ gy ∧ gy ≤ 16 <;> by_cases g2 : 0 ≤ m ∧ m ≤ gx <;> simp_all <;> omega)
      exact RetK.two σ (.slice none 0 0) (.bool false) rfl rfl rfl rfl rfl ehx5 ⟨none, 0, by rw [waveF_no hwn, show waveB gx gy m size turns = false from hwn]; rfl, by rw [waveF_no hwn]; exact Fsl.nil 1⟩
    ·
      have a13 : (0 : Int) ≤ m ∧ (m : Int) ≤ gx := of_decide_eq_true (bn_f q11)
      refine L.gv (j := 9) (d₁ := 23) (b := !(decide ((0 : Int) ≤ m ∧ (m : Int) ≤ gx))) rfl rfl rfl q11 (o_move (v := (.float .f32 size)) rfl) ?_
      refine L.gv (j := 9) (d₁ := 23) (b := !(decide ((0 : Int) ≤ m ∧ (m : Int) ≤ gx))) rfl rfl rfl q11 (v := (.bool (finB size))) (op_call [(.float .f32 size)] Try.call52 rfl (specFin size)) ?_
      refine L.gv (j := 9) (d₁ := 23) (b := !(decide ((0 : Int) ≤ m ∧ (m : Int) ≤ gx))) rfl rfl rfl q11 (o_not (b := finB size) rfl rfl) ?_
      refine L.v (o_pickF (b := !(decide ((0 : Int) ≤ m ∧ (m : Int) ≤ gx))) (v := (.bool (!(finB size)))) rfl q11 rfl) ?_
      refine L.v (o_move (v := (.bool (!(finB size)))) rfl) ?_
      rcases Bool.eq_false_or_eq_true (!(finB size)) with q14 | q14
      ·
        refine L.gF (j := 14) (d₁ := 28) (b := !(finB size)) rfl rfl rfl q14 ?_
        refine L.gF (j := 14) (d₁ := 28) (b := !(finB size)) rfl rfl rfl q14 ?_
        refine L.gF (j := 14) (d₁ := 28) (b := !(finB size)) rfl rfl rfl q14 ?_
        refine L.v (o_pickT (b := !(finB size)) (v := (.bool true)) rfl q14 rfl) ?_
        refine L.nil ?_
        refine W.condT (b := true) rfl rfl ?_
        refine W.seq ?_
        refine W.region ?_
        refine L.v (o_assign (v := (.slice none 0 0)) rfl) ?_
        refine L.v (o_assign (v := (.bool false)) rfl) ?_
        refine L.nil ?_
        refine W.ret ?_
        have hwn : waveB gx gy m size turns = false := (by unfold waveB; cases hfs : finB size <;> cases hft : finB turns <;> by_cases g1 : (4 ≤ gx ∧ gx ≤ 16) ∧ 4 ≤ gy ∧ gy ≤ 16 <;> by_cases g2 : 0 ≤ m ∧ m ≤ gx <;> simp_all <;> omega)
        exact RetK.two σ (.slice none 0 0) (.bool false) rfl rfl rfl rfl rfl ehx5 ⟨none, 0, by rw [waveF_no hwn, show waveB gx gy m size turns = false from hwn]; rfl, by rw [waveF_no hwn]; exact Fsl.nil 1⟩
      ·
        refine L.gv (j := 14) (d₁ := 28) (b := !(finB size)) rfl rfl rfl q14 (o_move (v := (.float .f32 turns)) rfl) ?_
        refine L.gv (j := 14) (d₁ := 28) (b := !(finB size)) rfl rfl rfl q14 (v := (.bool (finB turns))) (op_call [(.float .f32 turns)] Try.call52 rfl (specFin turns)) ?_
        refine L.gv (j := 14) (d₁ := 28) (b := !(finB size)) rfl rfl rfl q14 (o_not (b := finB turns) rfl rfl) ?_
        refine L.v (o_pickF (b := !(finB size)) (v := (.bool (!(finB turns)))) rfl q14 rfl) ?_
        refine L.nil ?_
        refine W.cond (b := !(finB turns)) rfl (fun q15 => ?_) (fun q15 => ?_)
        ·
          refine W.seq ?_
          refine W.region ?_
          refine L.v (o_assign (v := (.slice none 0 0)) rfl) ?_
          refine L.v (o_assign (v := (.bool false)) rfl) ?_
          refine L.nil ?_
          refine W.ret ?_
          have hwn : waveB gx gy m size turns = false := (by unfold waveB; cases hfs : finB size <;> cases hft : finB turns <;> by_cases g1 : (4 ≤ gx ∧ gx ≤ 16) ∧ 4 ≤ gy ∧ gy ≤ 16 <;> by_cases g2 : 0 ≤ m ∧ m ≤ gx <;> simp_all <;> omega)
          exact RetK.two σ (.slice none 0 0) (.bool false) rfl rfl rfl rfl rfl ehx5 ⟨none, 0, by rw [waveF_no hwn, show waveB gx gy m size turns = false from hwn]; rfl, by rw [waveF_no hwn]; exact Fsl.nil 1⟩
        ·
          refine W.skip ?_
          refine W.seq ?_
          obtain ⟨w, rfl⟩ : ∃ w : Nat, gx = (w : Int) := ⟨gx.toNat, by omega⟩
          obtain ⟨h, rfl⟩ : ∃ h : Nat, gy = (h : Int) := ⟨gy.toNat, by omega⟩
          refine W.region ?_
          refine L.cons (o_buildSlice (info := Try.t24) (z := .float .f32 0) [] Try.underlying32 Try.type24 rfl rfl rfl rfl (by decide) rfl rfl (by simp [Value.oneCell'])) ?_
          rintro _ _ ⟨b16, hf17, hw18, rfl, rfl⟩
          have ho0 := Own.new (σ := s4) (e := 24) 1 hw18
          have hx0 : Ext s4 (sg s4 b16 (24, [])) := (Ext.refl _).sg hf17
          have hv0 := ownAt (n := 0) (c := 0) hf17
          refine L.v (o_assign (v := (.slice (some ⟨b16, 0, none⟩) 0 0)) rfl) ?_
          refine L.nil ?_
          refine W.seq ?_
          refine W.seq ?_
          refine W.region ?_
          refine L.v (o_assign (v := (.int .i64 0)) rfl) ?_
          refine L.nil ?_
          refine W.block ?_
          refine W.loop (fun nn tt ss => ∃ (y : Nat) (v : Value), nn = h - y ∧ y ≤ h ∧ Own w0 ss 24 1 v (y * w + 0) ((waveL (wv w m size turns) w (y) (0)).map (Value.float .f32)) ∧ Ext s4 ss ∧ (∀ b, v.ownBlock = some b → s4 b = none) ∧ FrOk tt [(1, (.int .i64 m)), (2, (.float .f32 size)), (3, (.float .f32 turns)), (4, (.pointer (some ⟨b1, 0, none⟩))), (10, v), (11, (.int .i64 (y : Int)))]) _ ⟨0, (.slice (some ⟨b16, 0, none⟩) 0 0), rfl, by omega, (by rw [Nat.zero_mul]; exact ho0), hx0, hv0, ⟨rfl, rfl, rfl, rfl, rfl, rfl, trivial⟩⟩ ?_
          rintro _ tz19 sz19 ⟨y, vz19, rfl, hiy, hoz19, hxz19, hvz19, fz19⟩
          replace fz19 : (upd (upd (upd (upd (upd (upd tz19 1 (.int .i64 m)) 2 (.float .f32 size)) 3 (.float .f32 turns)) 4 (.pointer (some ⟨b1, 0, none⟩))) 10 vz19) 11 (.int .i64 (y : Int))) = tz19 := frame_ok fz19
          rw [← fz19]
          clear fz19
          refine W.seq ?_
          refine W.seq ?_
          refine W.region ?_
          refine L.v (o_move (v := (.int .i64 (y : Int))) rfl) ?_
          refine L.v (o_fieldAddr (b := b1) (off := 0) (o := 1) (run_fieldAt (f := 1) (fld := { name := "High", type := 2, offset := 1, embedded := false, tag := "", pkgPath := "", byteOffset := 8 }) Try.underlying27 rfl Try.sizeOf2 (Nat.succ_ne_zero _)) rfl) ?_
          refine L.v (o_load (b := b1) (off := 0 + 1) (v := (.int .i64 (h : Int))) Try.isAgg2 rfl (Rd.of (hxz19 _ _ hb6) rfl) rfl) ?_
          refine L.v (o_ilss (a := (y : Int)) (b := (h : Int)) rfl rfl rfl) ?_
          refine L.nil ?_
          refine W.cond (b := decide (((y : Int) : Int) < (h : Int))) rfl (fun q20 => ?_) (fun q20 => ?_)
          ·
            have a21 : ((y : Int) : Int) < (h : Int) := of_decide_eq_true q20
            refine W.skip ?_
            refine W.seq ?_
            refine W.block ?_
            refine W.seq ?_
            refine W.region ?_
            refine L.v (o_assign (v := (.int .i64 0)) rfl) ?_
            refine L.nil ?_
            refine W.block ?_
            refine W.loop (fun nn tt ss => ∃ (x : Nat) (v : Value), nn = w - x ∧ x ≤ w ∧ Own w0 ss 24 1 v (y * w + x) ((waveL (wv w m size turns) w (y) (x)).map (Value.float .f32)) ∧ Ext s4 ss ∧ (∀ b, v.ownBlock = some b → s4 b = none) ∧ FrOk tt [(1, (.int .i64 m)), (2, (.float .f32 size)), (3, (.float .f32 turns)), (4, (.pointer (some ⟨b1, 0, none⟩))), (10, v), (11, (.int .i64 (y : Int))), (12, (.int .i64 (x : Int)))]) _ ⟨0, vz19, rfl, by omega, hoz19, hxz19, hvz19, ⟨rfl, rfl, rfl, rfl, rfl, rfl, rfl, trivial⟩⟩ ?_
            rintro _ tz22 sz22 ⟨x, vz22, rfl, hix, hoz22, hxz22, hvz22, fz22⟩
            replace fz22 : (upd (upd (upd (upd (upd (upd (upd tz22 1 (.int .i64 m)) 2 (.float .f32 size)) 3 (.float .f32 turns)) 4 (.pointer (some ⟨b1, 0, none⟩))) 10 vz22) 11 (.int .i64 (y : Int))) 12 (.int .i64 (x : Int))) = tz22 := frame_ok fz22
            rw [← fz22]
            clear fz22
            refine W.seq ?_
            refine W.seq ?_
            refine W.region ?_
            refine L.v (o_move (v := (.int .i64 (x : Int))) rfl) ?_
            refine L.v (o_fieldAddr (b := b1) (off := 0) (o := 0) (run_fieldAt (f := 0) (fld := { name := "Wide", type := 2, offset := 0, embedded := false, tag := "", pkgPath := "", byteOffset := 0 }) Try.underlying27 rfl Try.sizeOf2 (Nat.succ_ne_zero _)) rfl) ?_
            refine L.v (o_load (b := b1) (off := 0 + 0) (v := (.int .i64 (w : Int))) Try.isAgg2 rfl (Rd.of (hxz22 _ _ hb6) rfl) rfl) ?_
            refine L.v (o_ilss (a := (x : Int)) (b := (w : Int)) rfl rfl rfl) ?_
            refine L.nil ?_
            refine W.cond (b := decide (((x : Int) : Int) < (w : Int))) rfl (fun q23 => ?_) (fun q23 => ?_)
            ·
              have a24 : ((x : Int) : Int) < (w : Int) := of_decide_eq_true q23
              refine W.skip ?_
              refine W.seq ?_
              refine W.block ?_
              refine W.seq ?_
              refine W.region ?_
              refine L.v (o_move (v := (.int .i64 m)) rfl) ?_
              refine L.v (o_cvIF (a := m) (by rw [Try.underlying2]; rfl) Try.underlying24 rfl) ?_
              refine L.v (o_move (v := (.int .i64 (x : Int))) rfl) ?_
              refine L.v (o_cvIF (a := (x : Int)) (by rw [Try.underlying2]; rfl) Try.underlying24 rfl) ?_
              refine L.v (o_fieldAddr (b := b1) (off := 0) (o := 0) (run_fieldAt (f := 0) (fld := { name := "Wide", type := 2, offset := 0, embedded := false, tag := "", pkgPath := "", byteOffset := 0 }) Try.underlying27 rfl Try.sizeOf2 (Nat.succ_ne_zero _)) rfl) ?_
              refine L.v (o_load (b := b1) (off := 0 + 0) (v := (.int .i64 (w : Int))) Try.isAgg2 rfl (Rd.of (hxz22 _ _ hb6) rfl) rfl) ?_
              refine L.v (o_cvIF (a := (w : Int)) (by rw [Try.underlying2]; rfl) Try.underlying24 rfl) ?_
              refine L.v (o_farith (k := .f32) (a := FloatKind.nearest .f32 (x : Int)) (b := FloatKind.nearest .f32 (w : Int)) rfl rfl rfl) ?_
              refine L.v (o_farith (k := .f32) (a := FloatKind.nearest .f32 m) (b := fop .quo .f32 (FloatKind.nearest .f32 (x : Int)) (FloatKind.nearest .f32 (w : Int))) rfl rfl rfl) ?_
              refine L.v (o_assign (v := (.float .f32 (fop .mul .f32 (FloatKind.nearest .f32 m) (fop .quo .f32 (FloatKind.nearest .f32 (x : Int)) (FloatKind.nearest .f32 (w : Int)))))) rfl) ?_
              refine L.nil ?_
              refine W.region ?_
              refine L.v (o_move (v := vz22) rfl) ?_
              refine L.v (o_move (v := (.float .f32 size)) rfl) ?_
              refine L.v (o_move (v := (.float .f32 (fop .mul .f32 (FloatKind.nearest .f32 m) (fop .quo .f32 (FloatKind.nearest .f32 (x : Int)) (FloatKind.nearest .f32 (w : Int)))))) rfl) ?_
              refine L.v (o_move (v := (.float .f32 turns)) rfl) ?_
              refine L.v (o_farith (k := .f32) (a := fop .mul .f32 (FloatKind.nearest .f32 m) (fop .quo .f32 (FloatKind.nearest .f32 (x : Int)) (FloatKind.nearest .f32 (w : Int)))) (b := turns) rfl rfl rfl) ?_
              refine L.v (v := (.float .f32 (sineA (fop .add .f32 (fop .mul .f32 (FloatKind.nearest .f32 m) (fop .quo .f32 (FloatKind.nearest .f32 (x : Int)) (FloatKind.nearest .f32 (w : Int)))) turns)))) (op_call [(.float .f32 (fop .add .f32 (fop .mul .f32 (FloatKind.nearest .f32 m) (fop .quo .f32 (FloatKind.nearest .f32 (x : Int)) (FloatKind.nearest .f32 (w : Int)))) turns))] Try.call53 rfl (specSine (fop .add .f32 (fop .mul .f32 (FloatKind.nearest .f32 m) (fop .quo .f32 (FloatKind.nearest .f32 (x : Int)) (FloatKind.nearest .f32 (w : Int)))) turns))) ?_
              refine L.v (o_farith (k := .f32) (a := size) (b := sineA (fop .add .f32 (fop .mul .f32 (FloatKind.nearest .f32 m) (fop .quo .f32 (FloatKind.nearest .f32 (x : Int)) (FloatKind.nearest .f32 (w : Int)))) turns)) rfl rfl rfl) ?_
              have hm1 := Nat.mul_le_mul (show y ≤ 16 by omega) (show w ≤ 16 by omega)
              refine L.cons (o_buildSlice (info := Try.t24) (z := .float .f32 0) [(.float .f32 (fop .mul .f32 size (sineA (fop .add .f32 (fop .mul .f32 (FloatKind.nearest .f32 m) (fop .quo .f32 (FloatKind.nearest .f32 (x : Int)) (FloatKind.nearest .f32 (w : Int)))) turns))))] Try.underlying32 Try.type24 rfl rfl rfl rfl (by decide) rfl rfl (by simp [Value.oneCell'])) ?_
              rintro _ _ ⟨b25, hf26, hw27, rfl, rfl⟩
              have hx28 := Ext.trans hxz22 ((Ext.refl _).sg (x := (24, [(.float .f32 (fop .mul .f32 size (sineA (fop .add .f32 (fop .mul .f32 (FloatKind.nearest .f32 m) (fop .quo .f32 (FloatKind.nearest .f32 (x : Int)) (FloatKind.nearest .f32 (w : Int)))) turns))))])) hf26)
              have ho29 := Own.ext hoz22 ((Ext.refl _).sg (x := (24, [(.float .f32 (fop .mul .f32 size (sineA (fop .add .f32 (fop .mul .f32 (FloatKind.nearest .f32 m) (fop .quo .f32 (FloatKind.nearest .f32 (x : Int)) (FloatKind.nearest .f32 (w : Int)))) turns))))])) hf26)
              refine L.cons (o_append (info := Try.t24) (z := .float .f32 0) (size := 1) (bytes := 4) (v := vz22) (n := (y * w + x)) (m := 1) (c := 1) (b := b25) (off := 0) (xs := (waveL (wv w m size turns) w (y) (x)).map (Value.float .f32)) (news := [(.float .f32 (fop .mul .f32 size (sineA (fop .add .f32 (fop .mul .f32 (FloatKind.nearest .f32 m) (fop .quo .f32 (FloatKind.nearest .f32 (x : Int)) (FloatKind.nearest .f32 (w : Int)))) turns))))]) Try.underlying32 Try.type24 rfl rfl rfl rfl rfl ho29 rfl (by decide) rfl (Rds.of (sg_eq _ _ _) (by intro j v hj; simpa using hj)) (by simp [Value.oneCell']) (by unfold maxLen; omega) (by omega)) ?_
              rintro v30 s31 ⟨ho32, gr33⟩
              have hx34 := Grew.ext gr33 hx28 hvz22
              have hv35 := Grew.fresh gr33 hx28 hvz22
              refine L.v (o_assign (v := v30) rfl) ?_
              refine L.nil ?_
              refine W.region ?_
              refine L.v (o_move (v := (.int .i64 (x : Int))) rfl) ?_
              refine L.v (o_iadd (a := (x : Int)) (b := 1) (c := ((x + 1 : Nat) : Int)) rfl rfl (by rw [IntWalk.i64_in _ (by omega)]; try omega)) ?_
              refine L.v (o_assign (v := (.int .i64 (((x + 1 : Nat) : Int)))) rfl) ?_
              refine L.nil ?_
              exact ⟨_, (by omega), x + 1, v30, rfl, by omega, (by rw [waveL_succ, List.map_append, List.map_singleton]; exact ho32), hx34, hv35, ⟨rfl, rfl, rfl, rfl, rfl, rfl, rfl, trivial⟩⟩
            ·
              have a36 : ¬ (((x : Int) : Int) < (w : Int)) := of_decide_eq_false q23
              refine W.exit ?_
              obtain rfl : w = x := by omega
              refine W.region ?_
              refine L.v (o_move (v := (.int .i64 (y : Int))) rfl) ?_
              refine L.v (o_iadd (a := (y : Int)) (b := 1) (c := ((y + 1 : Nat) : Int)) rfl rfl (by rw [IntWalk.i64_in _ (by omega)]; try omega)) ?_
              refine L.v (o_assign (v := (.int .i64 (((y + 1 : Nat) : Int)))) rfl) ?_
              refine L.nil ?_
              exact ⟨_, (by omega), y + 1, vz22, rfl, by omega, (by rw [← waveL_row, show (y + 1) * w + 0 = y * w + w by rw [Nat.succ_mul, Nat.add_zero]]; exact hoz22), hxz22, hvz22, ⟨rfl, rfl, rfl, rfl, rfl, rfl, trivial⟩⟩
          ·
            have a37 : ¬ (((y : Int) : Int) < (h : Int)) := of_decide_eq_false q20
            refine W.exit ?_
            refine W.seq ?_
            refine W.region ?_
            refine L.v (o_move (v := vz19) rfl) ?_
            refine L.v (o_assign (v := vz19) rfl) ?_
            refine L.v (o_assign (v := (.bool true)) rfl) ?_
            refine L.nil ?_
            refine W.ret ?_
            obtain rfl : h = y := by omega
            have hwb : waveB (w : Int) (h : Int) m size turns = true := by unfold waveB; cases hfs : finB size <;> cases hft : finB turns <;> by_cases g1 : (4 ≤ (w : Int) ∧ (w : Int) ≤ 16) ∧ 4 ≤ (h : Int) ∧ (h : Int) ≤ 16 <;> by_cases g2 : 0 ≤ m ∧ m ≤ (w : Int) <;> simp_all <;> omega
            obtain ⟨p', c', hpc, hfs⟩ := Fsl.of_own (rows := (waveL (wv w m size turns) w h 0).map fl) (n := h * w + 0) (by rw [flat_fl]; exact hoz19) (by rw [List.length_map, waveL_len]) (by simp [fl]) hxz19 hvz19
            subst hpc
            exact RetK.two _ (.slice p' (h * w + 0) c') (.bool true) rfl rfl rfl rfl rfl (Ext.refl _) ⟨p', c', by rw [waveF_yes hwb, hwb, waveL_len], by rw [waveF_yes hwb]; exact Fsl.weaken hfs ehx5⟩

theorem implWave {w0 : World} {σ : Sg} (gx gy m : Int) (size turns : Nat) :
    Fn Try.prog w0 16 [(.agg #[(.int .i64 gx), (.int .i64 gy)]), (.int .i64 m), (.float .f32 size), (.float .f32 turns)] σ (RetFS w0 σ 1 ((waveF gx gy m size turns).map fl) (waveF gx gy m size turns).length (fun v => .tuple #[v, .bool (waveB gx gy m size turns)])) := by
  refine Fn.of_W 60 Try.func16 rfl Try.ntmps16 rfl ?_
  refine W.seq ?_
  refine W.region ?_
  refine L.cons (o_box (v := (.agg #[(.int .i64 gx), (.int .i64 gy)])) rfl rfl [(.int .i64 gx), (.int .i64 gy)] rfl) ?_
  rintro _ _ ⟨b1, hf2, hw3, rfl, rfl⟩
  have fz7 := Ext.none (Ext.refl _) hf2
  have hb6 : (sg σ b1 (27, [(.int .i64 gx), (.int .i64 gy)])) b1 = some (27, [(.int .i64 gx), (.int .i64 gy)]) := sg_eq _ _ _
  have hx5 : Ext σ (sg σ b1 (27, [(.int .i64 gx), (.int .i64 gy)])) := (Ext.refl _).sg hf2
  have ehx5 := Ext.trans (Ext.refl _) hx5
  generalize hgs4 : sg σ b1 (27, [(.int .i64 gx), (.int .i64 gy)]) = s4 at *
  clear hgs4
  refine L.v (o_assign (v := (.slice none 0 0)) rfl) ?_
  refine L.v (o_assign (v := (.bool false)) rfl) ?_
  refine L.nil ?_
  refine W.seq ?_
  refine W.seq ?_
  refine W.region ?_
  refine L.v (o_loads (b := b1) (off := 0) (vs := [(.int .i64 gx), (.int .i64 gy)]) Try.isAgg27 Try.sizeOf27 rfl rfl (Rds.of hb6 (by intro j v hj; simpa using hj))) ?_
  refine L.v (v := (.bool (decide ((4 ≤ (gx : Int) ∧ (gx : Int) ≤ 16) ∧ 4 ≤ (gy : Int) ∧ (gy : Int) ≤ 16)))) (op_call [(.agg #[(.int .i64 gx), (.int .i64 gy)])] Try.call49 rfl (implIs gx gy)) ?_
  refine L.v (o_not (b := decide ((4 ≤ (gx : Int) ∧ (gx : Int) ≤ 16) ∧ 4 ≤ (gy : Int) ∧ (gy : Int) ≤ 16)) rfl rfl) ?_
  refine L.v (o_move (v := (.bool (!(decide ((4 ≤ (gx : Int) ∧ (gx : Int) ≤ 16) ∧ 4 ≤ (gy : Int) ∧ (gy : Int) ≤ 16))))) rfl) ?_
  rcases Bool.eq_false_or_eq_true (!(decide ((4 ≤ (gx : Int) ∧ (gx : Int) ≤ 16) ∧ 4 ≤ (gy : Int) ∧ (gy : Int) ≤ 16))) with q8 | q8
  ·
    have a9 : ¬ ((4 ≤ (gx : Int) ∧ (gx : Int) ≤ 16) ∧ 4 ≤ (gy : Int) ∧ (gy : Int) ≤ 16) := of_decide_eq_false (bn_t q8)
    refine L.gF (j := 3) (d₁ := 16) (b := !(decide ((4 ≤ (gx : Int) ∧ (gx : Int) ≤ 16) ∧ 4 ≤ (gy : Int) ∧ (gy : Int) ≤ 16))) rfl rfl rfl q8 ?_
    refine L.gF (j := 3) (d₁ := 16) (b := !(decide ((4 ≤ (gx : Int) ∧ (gx : Int) ≤ 16) ∧ 4 ≤ (gy : Int) ∧ (gy : Int) ≤ 16))) rfl rfl rfl q8 ?_
    refine L.gF (j := 3) (d₁ := 16) (b := !(decide ((4 ≤ (gx : Int) ∧ (gx : Int) ≤ 16) ∧ 4 ≤ (gy : Int) ∧ (gy : Int) ≤ 16))) rfl rfl rfl q8 ?_
    refine L.gF (j := 3) (d₁ := 16) (b := !(decide ((4 ≤ (gx : Int) ∧ (gx : Int) ≤ 16) ∧ 4 ≤ (gy : Int) ∧ (gy : Int) ≤ 16))) rfl rfl rfl q8 ?_
    refine L.gF (j := 3) (d₁ := 16) (b := !(decide ((4 ≤ (gx : Int) ∧ (gx : Int) ≤ 16) ∧ 4 ≤ (gy : Int) ∧ (gy : Int) ≤ 16))) rfl rfl rfl q8 ?_
    refine L.v (o_pickT (b := !(decide ((4 ≤ (gx : Int) ∧ (gx : Int) ≤ 16) ∧ 4 ≤ (gy : Int) ∧ (gy : Int) ≤ 16))) (v := (.bool true)) rfl q8 rfl) ?_
    refine L.v (o_move (v := (.bool true)) rfl) ?_
    refine L.gF (j := 10) (d₁ := 23) (b := true) rfl rfl rfl rfl ?_
    refine L.gF (j := 10) (d₁ := 23) (b := true) rfl rfl rfl rfl ?_
    refine L.gF (j := 10) (d₁ := 23) (b := true) rfl rfl rfl rfl ?_
    refine L.gF (j := 10) (d₁ := 23) (b := true) rfl rfl rfl rfl ?_
    refine L.gF (j := 10) (d₁ := 23) (b := true) rfl rfl rfl rfl ?_
    refine L.v (o_pickT (b := true) (v := (.bool true)) rfl rfl rfl) ?_
    refine L.nil ?_
    refine W.condT (b := true) rfl rfl ?_
    refine W.seq ?_
    refine W.region ?_
    refine L.v (o_assign (v := (.slice none 0 0)) rfl) ?_
    refine L.v (o_assign (v := (.bool false)) rfl) ?_
    refine L.nil ?_
    refine W.ret ?_
    have hwn : waveB gx gy m size turns = false := (by unfold waveB; cases hfs : finB size <;> cases hft : finB turns <;> by_cases g1 : (4 ≤ gx ∧ gx ≤ 16) ∧ 4 ≤ gy ∧ gy ≤ 16 <;> by_cases g2 : 0 ≤ m ∧ m ≤ gx <;> simp_all <;> omega)
    exact RetK.two σ (.slice none 0 0) (.bool false) rfl rfl rfl rfl rfl ehx5 ⟨none, 0, by rw [waveF_no hwn, show waveB gx gy m size turns = false from hwn]; rfl, by rw [waveF_no hwn]; exact Fsl.nil 1⟩
  ·
    have a10 : (4 ≤ (gx : Int) ∧ (gx : Int) ≤ 16) ∧ 4 ≤ (gy : Int) ∧ (gy : Int) ≤ 16 := of_decide_eq_true (bn_f q8)
    refine L.gv (j := 3) (d₁ := 16) (b := !(decide ((4 ≤ (gx : Int) ∧ (gx : Int) ≤ 16) ∧ 4 ≤ (gy : Int) ∧ (gy : Int) ≤ 16))) rfl rfl rfl q8 (o_move (v := (.int .i64 m)) rfl) ?_
    refine L.gv (j := 3) (d₁ := 16) (b := !(decide ((4 ≤ (gx : Int) ∧ (gx : Int) ≤ 16) ∧ 4 ≤ (gy : Int) ∧ (gy : Int) ≤ 16))) rfl rfl rfl q8 (o_fieldAddr (b := b1) (off := 0) (o := 0) (run_fieldAt (f := 0) (fld := { name := "Wide", type := 2, offset := 0, embedded := false, tag := "", pkgPath := "", byteOffset := 0 }) Try.underlying27 rfl Try.sizeOf2 (Nat.succ_ne_zero _)) rfl) ?_
    refine L.gv (j := 3) (d₁ := 16) (b := !(decide ((4 ≤ (gx : Int) ∧ (gx : Int) ≤ 16) ∧ 4 ≤ (gy : Int) ∧ (gy : Int) ≤ 16))) rfl rfl rfl q8 (o_load (b := b1) (off := 0 + 0) (v := (.int .i64 gx)) Try.isAgg2 rfl (Rd.of hb6 rfl) rfl) ?_
    refine L.gv (j := 3) (d₁ := 16) (b := !(decide ((4 ≤ (gx : Int) ∧ (gx : Int) ≤ 16) ∧ 4 ≤ (gy : Int) ∧ (gy : Int) ≤ 16))) rfl rfl rfl q8 (v := (.bool (decide ((0 : Int) ≤ m ∧ (m : Int) ≤ gx)))) (op_call [(.int .i64 m), (.int .i64 0), (.int .i64 gx)] Try.call50 rfl (withinI m 0 gx)) ?_
    refine L.gv (j := 3) (d₁ := 16) (b := !(decide ((4 ≤ (gx : Int) ∧ (gx : Int) ≤ 16) ∧ 4 ≤ (gy : Int) ∧ (gy : Int) ≤ 16))) rfl rfl rfl q8 (o_not (b := decide ((0 : Int) ≤ m ∧ (m : Int) ≤ gx)) rfl rfl) ?_
    refine L.v (o_pickF (b := !(decide ((4 ≤ (gx : Int) ∧ (gx : Int) ≤ 16) ∧ 4 ≤ (gy : Int) ∧ (gy : Int) ≤ 16))) (v := (.bool (!(decide ((0 : Int) ≤ m ∧ (m : Int) ≤ gx))))) rfl q8 rfl) ?_
    refine L.v (o_move (v := (.bool (!(decide ((0 : Int) ≤ m ∧ (m : Int) ≤ gx))))) rfl) ?_
    rcases Bool.eq_false_or_eq_true (!(decide ((0 : Int) ≤ m ∧ (m : Int) ≤ gx))) with q11 | q11
    ·
      have a12 : ¬ ((0 : Int) ≤ m ∧ (m : Int) ≤ gx) := of_decide_eq_false (bn_t q11)
      refine L.gF (j := 10) (d₁ := 23) (b := !(decide ((0 : Int) ≤ m ∧ (m : Int) ≤ gx))) rfl rfl rfl q11 ?_
      refine L.gF (j := 10) (d₁ := 23) (b := !(decide ((0 : Int) ≤ m ∧ (m : Int) ≤ gx))) rfl rfl rfl q11 ?_
      refine L.gF (j := 10) (d₁ := 23) (b := !(decide ((0 : Int) ≤ m ∧ (m : Int) ≤ gx))) rfl rfl rfl q11 ?_
      refine L.gF (j := 10) (d₁ := 23) (b := !(decide ((0 : Int) ≤ m ∧ (m : Int) ≤ gx))) rfl rfl rfl q11 ?_
      refine L.gF (j := 10) (d₁ := 23) (b := !(decide ((0 : Int) ≤ m ∧ (m : Int) ≤ gx))) rfl rfl rfl q11 ?_
      refine L.v (o_pickT (b := !(decide ((0 : Int) ≤ m ∧ (m : Int) ≤ gx))) (v := (.bool true)) rfl q11 rfl) ?_
      refine L.nil ?_
      refine W.condT (b := true) rfl rfl ?_
      refine W.seq ?_
      refine W.region ?_
      refine L.v (o_assign (v := (.slice none 0 0)) rfl) ?_
      refine L.v (o_assign (v := (.bool false)) rfl) ?_
      refine L.nil ?_
      refine W.ret ?_
      have hwn : waveB gx gy m size turns = false := (by unfold waveB; cases hfs : finB size <;> cases hft : finB turns <;> by_cases g1 : (4 ≤ gx ∧ gx ≤ 16) ∧ 4 ≤ gy ∧ gy ≤ 16 <;> by_cases g2 : 0 ≤ m ∧ m ≤ gx <;> simp_all <;> omega)
      exact RetK.two σ (.slice none 0 0) (.bool false) rfl rfl rfl rfl rfl ehx5 ⟨none, 0, by rw [waveF_no hwn, show waveB gx gy m size turns = false from hwn]; rfl, by rw [waveF_no hwn]; exact Fsl.nil 1⟩
    ·
      have a13 : (0 : Int) ≤ m ∧ (m : Int) ≤ gx := of_decide_eq_true (bn_f q11)
      refine L.gv (j := 10) (d₁ := 23) (b := !(decide ((0 : Int) ≤ m ∧ (m : Int) ≤ gx))) rfl rfl rfl q11 (o_move (v := (.float .f32 size)) rfl) ?_
      refine L.gv (j := 10) (d₁ := 23) (b := !(decide ((0 : Int) ≤ m ∧ (m : Int) ≤ gx))) rfl rfl rfl q11 (o_move (v := (.float .f32 turns)) rfl) ?_
      refine L.gT (j := 10) (d₁ := 23) (b := !(decide ((0 : Int) ≤ m ∧ (m : Int) ≤ gx))) rfl rfl rfl q11 (o_buildSlice (info := Try.t24) (z := .float .f32 0) [(.float .f32 size), (.float .f32 turns)] Try.underlying32 Try.type24 rfl rfl rfl rfl (by decide) rfl rfl (by simp [Value.oneCell'])) ?_
      rintro _ _ ⟨b14, hf15, hw16, rfl, rfl⟩
      have fz20 := Ext.none ehx5 hf15
      have ne21 := ne_of_free hb6 hf15
      have hb19 : (sg s4 b14 (24, [(.float .f32 size), (.float .f32 turns)])) b14 = some (24, [(.float .f32 size), (.float .f32 turns)]) := sg_eq _ _ _
      have hx18 : Ext s4 (sg s4 b14 (24, [(.float .f32 size), (.float .f32 turns)])) := (Ext.refl _).sg hf15
      have hb22 := hx18 _ _ hb6
      have ehx18 := Ext.trans ehx5 hx18
      generalize hgs17 : sg s4 b14 (24, [(.float .f32 size), (.float .f32 turns)]) = s17 at *
      clear hgs17
      refine L.gv (j := 10) (d₁ := 23) (b := !(decide ((0 : Int) ≤ m ∧ (m : Int) ≤ gx))) rfl rfl rfl q11 (v := (.bool (finB size && finB turns))) (op_call [(.slice (some ⟨b14, 0, none⟩) 2 2)] Try.call54 rfl (areFin2 b14 0 size turns (Sl.of (e := 24) (f := fl) (xs := [size, turns]) hb19 (by simp [fl])))) ?_
      refine L.gv (j := 10) (d₁ := 23) (b := !(decide ((0 : Int) ≤ m ∧ (m : Int) ≤ gx))) rfl rfl rfl q11 (o_not (b := finB size && finB turns) rfl rfl) ?_
      refine L.v (o_pickF (b := !(decide ((0 : Int) ≤ m ∧ (m : Int) ≤ gx))) (v := (.bool (!(finB size && finB turns)))) rfl q11 rfl) ?_
      refine L.nil ?_
      refine W.cond (b := !(finB size && finB turns)) rfl (fun q23 => ?_) (fun q23 => ?_)
      ·
        refine W.seq ?_
        refine W.region ?_
        refine L.v (o_assign (v := (.slice none 0 0)) rfl) ?_
        refine L.v (o_assign (v := (.bool false)) rfl) ?_
        refine L.nil ?_
        refine W.ret ?_
        have hwn : waveB gx gy m size turns = false := (by unfold waveB; cases hfs : finB size <;> cases hft : finB turns <;> by_cases g1 : (4 ≤ gx ∧ gx ≤ 16) ∧ 4 ≤ gy ∧ gy ≤ 16 <;> by_cases g2 : 0 ≤ m ∧ m ≤ gx <;> simp_all <;> omega)
        exact RetK.two σ (.slice none 0 0) (.bool false) rfl rfl rfl rfl rfl ehx18 ⟨none, 0, by rw [waveF_no hwn, show waveB gx gy m size turns = false from hwn]; rfl, by rw [waveF_no hwn]; exact Fsl.nil 1⟩
      ·
        refine W.skip ?_
        refine W.seq ?_
        obtain ⟨w, rfl⟩ : ∃ w : Nat, gx = (w : Int) := ⟨gx.toNat, by omega⟩
        obtain ⟨h, rfl⟩ : ∃ h : Nat, gy = (h : Int) := ⟨gy.toNat, by omega⟩
        refine W.region ?_
        refine L.v (o_assign (v := (.slice none 0 0)) rfl) ?_
        refine L.nil ?_
        refine W.seq ?_
        refine W.seq ?_
        refine W.region ?_
        refine L.v (o_fieldAddr (b := b1) (off := 0) (o := 1) (run_fieldAt (f := 1) (fld := { name := "High", type := 2, offset := 1, embedded := false, tag := "", pkgPath := "", byteOffset := 8 }) Try.underlying27 rfl Try.sizeOf2 (Nat.succ_ne_zero _)) rfl) ?_
        refine L.v (o_load (b := b1) (off := 0 + 1) (v := (.int .i64 (h : Int))) Try.isAgg2 rfl (Rd.of hb22 rfl) rfl) ?_
        refine L.v (o_move (v := (.int .i64 0)) rfl) ?_
        refine L.nil ?_
        refine W.block ?_
        have ho0 := Own.nil (w0 := w0) (σ := s17) 24 1
        have hx0 := Ext.refl s17
        have hv0 := ownNil (σ := s17)
        refine W.loop (fun nn tt ss => ∃ (y : Nat) (v : Value), nn = h - y ∧ y ≤ h ∧ Own w0 ss 24 1 v (y * w + 0) ((waveL (wv w m size turns) w (y) (0)).map (Value.float .f32)) ∧ Ext s17 ss ∧ (∀ b, v.ownBlock = some b → s17 b = none) ∧ FrOk tt [(1, (.int .i64 m)), (2, (.float .f32 size)), (3, (.float .f32 turns)), (4, (.pointer (some ⟨b1, 0, none⟩))), (10, v), (31, (.int .i64 (h : Int))), (32, (.int .i64 (y : Int)))]) _ ⟨0, (.slice none 0 0), rfl, by omega, (by rw [Nat.zero_mul]; exact ho0), hx0, hv0, ⟨rfl, rfl, rfl, rfl, rfl, rfl, rfl, trivial⟩⟩ ?_
        rintro _ tz24 sz24 ⟨y, vz24, rfl, hiy, hoz24, hxz24, hvz24, fz24⟩
        replace fz24 : (upd (upd (upd (upd (upd (upd (upd tz24 1 (.int .i64 m)) 2 (.float .f32 size)) 3 (.float .f32 turns)) 4 (.pointer (some ⟨b1, 0, none⟩))) 10 vz24) 31 (.int .i64 (h : Int))) 32 (.int .i64 (y : Int))) = tz24 := frame_ok fz24
        rw [← fz24]
        clear fz24
        refine W.seq ?_
        refine W.region ?_
        refine L.v (o_ilss (a := (y : Int)) (b := (h : Int)) rfl rfl rfl) ?_
        refine L.nil ?_
        refine W.seq ?_
        refine W.cond (b := decide (((y : Int) : Int) < (h : Int))) rfl (fun q25 => ?_) (fun q25 => ?_)
        ·
          have a26 : ((y : Int) : Int) < (h : Int) := of_decide_eq_true q25
          refine W.skip ?_
          refine W.seq ?_
          refine W.block ?_
          refine W.seq ?_
          refine W.region ?_
          refine L.v (o_fieldAddr (b := b1) (off := 0) (o := 0) (run_fieldAt (f := 0) (fld := { name := "Wide", type := 2, offset := 0, embedded := false, tag := "", pkgPath := "", byteOffset := 0 }) Try.underlying27 rfl Try.sizeOf2 (Nat.succ_ne_zero _)) rfl) ?_
          refine L.v (o_load (b := b1) (off := 0 + 0) (v := (.int .i64 (w : Int))) Try.isAgg2 rfl (Rd.of (hxz24 _ _ hb22) rfl) rfl) ?_
          refine L.v (o_move (v := (.int .i64 0)) rfl) ?_
          refine L.nil ?_
          refine W.block ?_
          refine W.loop (fun nn tt ss => ∃ (x : Nat) (v : Value), nn = w - x ∧ x ≤ w ∧ Own w0 ss 24 1 v (y * w + x) ((waveL (wv w m size turns) w (y) (x)).map (Value.float .f32)) ∧ Ext s17 ss ∧ (∀ b, v.ownBlock = some b → s17 b = none) ∧ FrOk tt [(1, (.int .i64 m)), (2, (.float .f32 size)), (3, (.float .f32 turns)), (4, (.pointer (some ⟨b1, 0, none⟩))), (10, v), (31, (.int .i64 (h : Int))), (32, (.int .i64 (y : Int))), (35, (.int .i64 (w : Int))), (36, (.int .i64 (x : Int)))]) _ ⟨0, vz24, rfl, by omega, hoz24, hxz24, hvz24, ⟨rfl, rfl, rfl, rfl, rfl, rfl, rfl, rfl, rfl, trivial⟩⟩ ?_
          rintro _ tz27 sz27 ⟨x, vz27, rfl, hix, hoz27, hxz27, hvz27, fz27⟩
          replace fz27 : (upd (upd (upd (upd (upd (upd (upd (upd (upd tz27 1 (.int .i64 m)) 2 (.float .f32 size)) 3 (.float .f32 turns)) 4 (.pointer (some ⟨b1, 0, none⟩))) 10 vz27) 31 (.int .i64 (h : Int))) 32 (.int .i64 (y : Int))) 35 (.int .i64 (w : Int))) 36 (.int .i64 (x : Int))) = tz27 := frame_ok fz27
          rw [← fz27]
          clear fz27
          refine W.seq ?_
          refine W.region ?_
          refine L.v (o_ilss (a := (x : Int)) (b := (w : Int)) rfl rfl rfl) ?_
          refine L.nil ?_
          refine W.seq ?_
          refine W.cond (b := decide (((x : Int) : Int) < (w : Int))) rfl (fun q28 => ?_) (fun q28 => ?_)
          ·
            have a29 : ((x : Int) : Int) < (w : Int) := of_decide_eq_true q28
            refine W.skip ?_
            refine W.seq ?_
            refine W.block ?_
            refine W.seq ?_
            refine W.region ?_
            refine L.v (o_move (v := (.int .i64 (x : Int))) rfl) ?_
            refine L.v (o_assign (v := (.int .i64 (x : Int))) rfl) ?_
            refine L.nil ?_
            refine W.seq ?_
            refine W.region ?_
            refine L.v (o_move (v := (.int .i64 (x : Int))) rfl) ?_
            refine L.v (o_cvIF (a := (x : Int)) (by rw [Try.underlying2]; rfl) Try.underlying24 rfl) ?_
            refine L.v (o_fieldAddr (b := b1) (off := 0) (o := 0) (run_fieldAt (f := 0) (fld := { name := "Wide", type := 2, offset := 0, embedded := false, tag := "", pkgPath := "", byteOffset := 0 }) Try.underlying27 rfl Try.sizeOf2 (Nat.succ_ne_zero _)) rfl) ?_
            refine L.v (o_load (b := b1) (off := 0 + 0) (v := (.int .i64 (w : Int))) Try.isAgg2 rfl (Rd.of (hxz27 _ _ hb22) rfl) rfl) ?_
            refine L.v (o_cvIF (a := (w : Int)) (by rw [Try.underlying2]; rfl) Try.underlying24 rfl) ?_
            refine L.v (o_farith (k := .f32) (a := FloatKind.nearest .f32 (x : Int)) (b := FloatKind.nearest .f32 (w : Int)) rfl rfl rfl) ?_
            refine L.v (o_assign (v := (.float .f32 (fop .quo .f32 (FloatKind.nearest .f32 (x : Int)) (FloatKind.nearest .f32 (w : Int))))) rfl) ?_
            refine L.nil ?_
            refine W.region ?_
            refine L.v (o_move (v := vz27) rfl) ?_
            refine L.v (o_move (v := (.float .f32 size)) rfl) ?_
            refine L.v (o_move (v := (.int .i64 m)) rfl) ?_
            refine L.v (o_cvIF (a := m) (by rw [Try.underlying2]; rfl) Try.underlying24 rfl) ?_
            refine L.v (o_move (v := (.float .f32 (fop .quo .f32 (FloatKind.nearest .f32 (x : Int)) (FloatKind.nearest .f32 (w : Int))))) rfl) ?_
            refine L.v (o_farith (k := .f32) (a := FloatKind.nearest .f32 m) (b := fop .quo .f32 (FloatKind.nearest .f32 (x : Int)) (FloatKind.nearest .f32 (w : Int))) rfl rfl rfl) ?_
            refine L.v (o_move (v := (.float .f32 turns)) rfl) ?_
            refine L.v (o_farith (k := .f32) (a := fop .mul .f32 (FloatKind.nearest .f32 m) (fop .quo .f32 (FloatKind.nearest .f32 (x : Int)) (FloatKind.nearest .f32 (w : Int)))) (b := turns) rfl rfl rfl) ?_
            refine L.v (v := (.float .f32 (sineA (fop .add .f32 (fop .mul .f32 (FloatKind.nearest .f32 m) (fop .quo .f32 (FloatKind.nearest .f32 (x : Int)) (FloatKind.nearest .f32 (w : Int)))) turns)))) (op_call [(.float .f32 (fop .add .f32 (fop .mul .f32 (FloatKind.nearest .f32 m) (fop .quo .f32 (FloatKind.nearest .f32 (x : Int)) (FloatKind.nearest .f32 (w : Int)))) turns))] Try.call55 rfl (implSine (fop .add .f32 (fop .mul .f32 (FloatKind.nearest .f32 m) (fop .quo .f32 (FloatKind.nearest .f32 (x : Int)) (FloatKind.nearest .f32 (w : Int)))) turns))) ?_
            refine L.v (o_farith (k := .f32) (a := size) (b := sineA (fop .add .f32 (fop .mul .f32 (FloatKind.nearest .f32 m) (fop .quo .f32 (FloatKind.nearest .f32 (x : Int)) (FloatKind.nearest .f32 (w : Int)))) turns)) rfl rfl rfl) ?_
            have hm1 := Nat.mul_le_mul (show y ≤ 16 by omega) (show w ≤ 16 by omega)
            refine L.cons (o_buildSlice (info := Try.t24) (z := .float .f32 0) [(.float .f32 (fop .mul .f32 size (sineA (fop .add .f32 (fop .mul .f32 (FloatKind.nearest .f32 m) (fop .quo .f32 (FloatKind.nearest .f32 (x : Int)) (FloatKind.nearest .f32 (w : Int)))) turns))))] Try.underlying32 Try.type24 rfl rfl rfl rfl (by decide) rfl rfl (by simp [Value.oneCell'])) ?_
            rintro _ _ ⟨b30, hf31, hw32, rfl, rfl⟩
            have hx33 := Ext.trans hxz27 ((Ext.refl _).sg (x := (24, [(.float .f32 (fop .mul .f32 size (sineA (fop .add .f32 (fop .mul .f32 (FloatKind.nearest .f32 m) (fop .quo .f32 (FloatKind.nearest .f32 (x : Int)) (FloatKind.nearest .f32 (w : Int)))) turns))))])) hf31)
            have ho34 := Own.ext hoz27 ((Ext.refl _).sg (x := (24, [(.float .f32 (fop .mul .f32 size (sineA (fop .add .f32 (fop .mul .f32 (FloatKind.nearest .f32 m) (fop .quo .f32 (FloatKind.nearest .f32 (x : Int)) (FloatKind.nearest .f32 (w : Int)))) turns))))])) hf31)
            refine L.cons (o_append (info := Try.t24) (z := .float .f32 0) (size := 1) (bytes := 4) (v := vz27) (n := (y * w + x)) (m := 1) (c := 1) (b := b30) (off := 0) (xs := (waveL (wv w m size turns) w (y) (x)).map (Value.float .f32)) (news := [(.float .f32 (fop .mul .f32 size (sineA (fop .add .f32 (fop .mul .f32 (FloatKind.nearest .f32 m) (fop .quo .f32 (FloatKind.nearest .f32 (x : Int)) (FloatKind.nearest .f32 (w : Int)))) turns))))]) Try.underlying32 Try.type24 rfl rfl rfl rfl rfl ho34 rfl (by decide) rfl (Rds.of (sg_eq _ _ _) (by intro j v hj; simpa using hj)) (by simp [Value.oneCell']) (by unfold maxLen; omega) (by omega)) ?_
            rintro v35 s36 ⟨ho37, gr38⟩
            have hx39 := Grew.ext gr38 hx33 hvz27
            have hv40 := Grew.fresh gr38 hx33 hvz27
            refine L.v (o_assign (v := v35) rfl) ?_
            refine L.nil ?_
            refine W.region ?_
            refine L.v (o_iadd (a := (x : Int)) (b := 1) (c := ((x + 1 : Nat) : Int)) rfl rfl (by rw [IntWalk.i64_in _ (by omega)]; try omega)) ?_
            refine L.v (o_move (v := (.int .i64 (((x + 1 : Nat) : Int)))) rfl) ?_
            refine L.nil ?_
            exact ⟨_, (by omega), x + 1, v35, rfl, by omega, (by rw [waveL_succ, List.map_append, List.map_singleton]; exact ho37), hx39, hv40, ⟨rfl, rfl, rfl, rfl, rfl, rfl, rfl, rfl, rfl, trivial⟩⟩
          ·
            have a41 : ¬ (((x : Int) : Int) < (w : Int)) := of_decide_eq_false q28
            refine W.exit ?_
            obtain rfl : w = x := by omega
            refine W.region ?_
            refine L.v (o_iadd (a := (y : Int)) (b := 1) (c := ((y + 1 : Nat) : Int)) rfl rfl (by rw [IntWalk.i64_in _ (by omega)]; try omega)) ?_
            refine L.v (o_move (v := (.int .i64 (((y + 1 : Nat) : Int)))) rfl) ?_
            refine L.nil ?_
            exact ⟨_, (by omega), y + 1, vz27, rfl, by omega, (by rw [← waveL_row, show (y + 1) * w + 0 = y * w + w by rw [Nat.succ_mul, Nat.add_zero]]; exact hoz27), hxz27, hvz27, ⟨rfl, rfl, rfl, rfl, rfl, rfl, rfl, trivial⟩⟩
        ·
          have a42 : ¬ (((y : Int) : Int) < (h : Int)) := of_decide_eq_false q25
          refine W.exit ?_
          refine W.seq ?_
          refine W.region ?_
          refine L.v (o_move (v := vz24) rfl) ?_
          refine L.v (o_assign (v := vz24) rfl) ?_
          refine L.v (o_assign (v := (.bool true)) rfl) ?_
          refine L.nil ?_
          refine W.ret ?_
          obtain rfl : h = y := by omega
          have hwb : waveB (w : Int) (h : Int) m size turns = true := by unfold waveB; cases hfs : finB size <;> cases hft : finB turns <;> by_cases g1 : (4 ≤ (w : Int) ∧ (w : Int) ≤ 16) ∧ 4 ≤ (h : Int) ∧ (h : Int) ≤ 16 <;> by_cases g2 : 0 ≤ m ∧ m ≤ (w : Int) <;> simp_all <;> omega
          obtain ⟨p', c', hpc, hfs⟩ := Fsl.of_own (rows := (waveL (wv w m size turns) w h 0).map fl) (n := h * w + 0) (by rw [flat_fl]; exact hoz24) (by rw [List.length_map, waveL_len]) (by simp [fl]) hxz24 hvz24
          subst hpc
          exact RetK.two _ (.slice p' (h * w + 0) c') (.bool true) rfl rfl rfl rfl rfl (Ext.refl _) ⟨p', c', by rw [waveF_yes hwb, hwb, waveL_len], by rw [waveF_yes hwb]; exact Fsl.weaken hfs ehx18⟩

theorem lawWave {w0 : World} {σ : Sg} (gx gy m : Int) (bm : -9223372036854775808 ≤ m ∧ m ≤ 9223372036854775807) (size turns : Nat) :
    Fn Try.prog w0 4 [(.agg #[(.int .i64 gx), (.int .i64 gy)]), (.int .i64 m), (.float .f32 size), (.float .f32 turns)] σ (fun u _ => u = .bool true) := by
  refine Fn.of_W 81 Try.func4 rfl Try.ntmps4 rfl ?_
  refine W.seq ?_
  refine W.region ?_
  refine L.cons (o_box (v := (.agg #[(.int .i64 gx), (.int .i64 gy)])) rfl rfl [(.int .i64 gx), (.int .i64 gy)] rfl) ?_
  rintro _ _ ⟨b1, hf2, hw3, rfl, rfl⟩
  have hb6 : (sg σ b1 (23, [(.int .i64 gx), (.int .i64 gy)])) b1 = some (23, [(.int .i64 gx), (.int .i64 gy)]) := sg_eq _ _ _
  have hx5 : Ext σ (sg σ b1 (23, [(.int .i64 gx), (.int .i64 gy)])) := (Ext.refl _).sg hf2
  have ehx5 := Ext.trans (Ext.refl _) hx5
  generalize hgs4 : sg σ b1 (23, [(.int .i64 gx), (.int .i64 gy)]) = s4 at *
  clear hgs4
  refine L.v (o_assign (v := (.bool false)) rfl) ?_
  refine L.nil ?_
  refine W.seq ?_
  refine W.region ?_
  refine L.v (o_loads (b := b1) (off := 0) (vs := [(.int .i64 gx), (.int .i64 gy)]) Try.isAgg23 Try.sizeOf23 rfl rfl (Rds.of hb6 (by intro j v hj; simpa using hj))) ?_
  refine L.v (v := (.agg #[(.int .i64 gx), (.int .i64 gy)])) (op_call [(.agg #[(.int .i64 gx), (.int .i64 gy)])] Try.call12 rfl (toGrid_c gx gy)) ?_
  refine L.v (o_move (v := (.int .i64 m)) rfl) ?_
  refine L.v (o_move (v := (.float .f32 size)) rfl) ?_
  refine L.v (o_move (v := (.float .f32 turns)) rfl) ?_
  refine L.cons (op_call [(.agg #[(.int .i64 gx), (.int .i64 gy)]), (.int .i64 m), (.float .f32 size), (.float .f32 turns)] Try.call15 rfl (specWave gx gy m size turns)) ?_
  rintro _ s9 ⟨p7, c8, rfl, fs10⟩
  have ne11 := Fsl.ne fs10 hb6
  have hb12 := fs10.ext _ _ hb6
  have ex13 := Ext.trans ehx5 fs10.ext
  have mu14 := Fsl.mut fs10 ((waveF gx gy m size turns).length) (by simp)
  refine L.v (o_move (v := (.tuple #[(.slice p7 ((waveF gx gy m size turns).length) c8), (.bool (waveB gx gy m size turns))])) rfl) ?_
  refine L.v (o_extract (vs := #[(.slice p7 ((waveF gx gy m size turns).length) c8), (.bool (waveB gx gy m size turns))]) (v := (.slice p7 ((waveF gx gy m size turns).length) c8)) rfl rfl rfl) ?_
  refine L.v (o_extract (vs := #[(.slice p7 ((waveF gx gy m size turns).length) c8), (.bool (waveB gx gy m size turns))]) (v := (.bool (waveB gx gy m size turns))) rfl rfl rfl) ?_
  refine L.v (o_assign (v := (.slice p7 ((waveF gx gy m size turns).length) c8)) rfl) ?_
  refine L.v (o_assign (v := (.bool (waveB gx gy m size turns))) rfl) ?_
  refine L.nil ?_
  refine W.seq ?_
  refine W.region ?_
  refine L.v (o_loads (b := b1) (off := 0) (vs := [(.int .i64 gx), (.int .i64 gy)]) Try.isAgg23 Try.sizeOf23 rfl rfl (Rds.of hb12 (by intro j v hj; simpa using hj))) ?_
  refine L.v (v := (.agg #[(.int .i64 gx), (.int .i64 gy)])) (op_call [(.agg #[(.int .i64 gx), (.int .i64 gy)])] Try.call12 rfl (toGrid_c gx gy)) ?_
  refine L.v (o_move (v := (.int .i64 m)) rfl) ?_
  refine L.v (o_move (v := (.float .f32 size)) rfl) ?_
  refine L.v (o_move (v := (.float .f32 turns)) rfl) ?_
  refine L.cons (op_call [(.agg #[(.int .i64 gx), (.int .i64 gy)]), (.int .i64 m), (.float .f32 size), (.float .f32 turns)] Try.call16 rfl (implWave gx gy m size turns)) ?_
  rintro _ s17 ⟨p15, c16, rfl, fs18⟩
  have ne19 := Fsl.ne fs18 hb12
  have ap20 : Apart ((waveF gx gy m size turns).length) ((waveF gx gy m size turns).length) p15 p7 := by simpa using Fsl.apart fs18 (Fsl.reads fs10) (fl_ne _)
  have hb21 := fs18.ext _ _ hb12
  have hs22 := Sl.ext (Fsl.reads fs10) fs18.ext
  have mu23 := Mut.ext mu14 fs18.ext
  have ex24 := Ext.trans ex13 fs18.ext
  have mu25 := Fsl.mut fs18 ((waveF gx gy m size turns).length) (by simp)
  refine L.v (o_move (v := (.tuple #[(.slice p15 ((waveF gx gy m size turns).length) c16), (.bool (waveB gx gy m size turns))])) rfl) ?_
  refine L.v (o_extract (vs := #[(.slice p15 ((waveF gx gy m size turns).length) c16), (.bool (waveB gx gy m size turns))]) (v := (.slice p15 ((waveF gx gy m size turns).length) c16)) rfl rfl rfl) ?_
  refine L.v (o_extract (vs := #[(.slice p15 ((waveF gx gy m size turns).length) c16), (.bool (waveB gx gy m size turns))]) (v := (.bool (waveB gx gy m size turns))) rfl rfl rfl) ?_
  refine L.v (o_assign (v := (.slice p15 ((waveF gx gy m size turns).length) c16)) rfl) ?_
  refine L.v (o_assign (v := (.bool (waveB gx gy m size turns))) rfl) ?_
  refine L.nil ?_
  refine W.seq ?_
  refine W.seq ?_
  refine W.region ?_
  refine L.v (o_move (v := (.slice p15 ((waveF gx gy m size turns).length) c16)) rfl) ?_
  refine L.v (o_move (v := (.slice p7 ((waveF gx gy m size turns).length) c8)) rfl) ?_
  refine L.v (v := (.bool true)) (op_call [(.slice p15 ((waveF gx gy m size turns).length) c16), (.slice p7 ((waveF gx gy m size turns).length) c8)] Try.call17 rfl (eqF32S p15 p7 c16 c8 (waveF gx gy m size turns) (Fsl.reads fs18) hs22 (by first | omega | exact waveF_le _ _ _ _ _))) ?_
  refine L.v (o_not (b := true) (c := false) rfl rfl) ?_
  refine L.v (o_move (v := (.bool false)) rfl) ?_
  refine L.gv (j := 4) (d₁ := 39) (b := false) rfl rfl rfl rfl (o_move (v := (.bool (waveB gx gy m size turns))) rfl) ?_
  refine L.gv (j := 4) (d₁ := 39) (b := false) rfl rfl rfl rfl (o_move (v := (.bool (waveB gx gy m size turns))) rfl) ?_
  refine L.gv (j := 4) (d₁ := 39) (b := false) rfl rfl rfl rfl (o_bneq (a := waveB gx gy m size turns) (b := waveB gx gy m size turns) (c := false) Try.underlying4 rfl rfl (by simp)) ?_
  refine L.v (o_pickF (b := false) (v := (.bool false)) rfl rfl rfl) ?_
  refine L.nil ?_
  refine W.condF (b := false) rfl rfl ?_
  refine W.skip ?_
  refine W.seq ?_
  refine W.region ?_
  refine L.v (o_assign (v := (.int .i64 1)) rfl) ?_
  refine L.nil ?_
  refine W.seq ?_
  refine W.region ?_
  refine L.v (o_move (v := (.slice p15 ((waveF gx gy m size turns).length) c16)) rfl) ?_
  refine L.v (o_move (v := (.int .i64 1)) rfl) ?_
  refine L.cons (op_call [(.slice p15 ((waveF gx gy m size turns).length) c16), (.int .i64 1)] Try.call18 rfl (markF p15 ((waveF gx gy m size turns).length) c16 1 mu25 (by first | omega | exact waveF_le _ _ _ _ _) (by omega))) ?_
  rintro _ s26 ⟨rfl, mk27, sl28⟩
  have hb29 := Mkd.cells mk27 hb21 ne19
  have hs30 := Sl.mkd hs22 mk27 (by simpa using ap20)
  have mu31 := Mut.mkd mu23 mk27 ap20 (by simp)
  refine L.v (o_assign (v := (.int .i64 (1 + (((waveF gx gy m size turns).length : Nat) : Int)))) rfl) ?_
  refine L.nil ?_
  refine W.seq ?_
  refine W.region ?_
  refine L.v (o_assign (v := (.int .i64 1)) rfl) ?_
  refine L.nil ?_
  refine W.seq ?_
  refine W.region ?_
  refine L.v (o_move (v := (.slice p15 ((waveF gx gy m size turns).length) c16)) rfl) ?_
  refine L.v (o_move (v := (.int .i64 1)) rfl) ?_
  refine L.v (v := (.int .i64 (1 + (((waveF gx gy m size turns).length : Nat) : Int)))) (op_call [(.slice p15 ((waveF gx gy m size turns).length) c16), (.int .i64 1)] Try.call19 rfl (heldF p15 ((waveF gx gy m size turns).length) c16 1 sl28 (by first | omega | exact waveF_le _ _ _ _ _) (by omega))) ?_
  refine L.v (o_assign (v := (.int .i64 (1 + (((waveF gx gy m size turns).length : Nat) : Int)))) rfl) ?_
  refine L.nil ?_
  refine W.seq ?_
  refine W.seq ?_
  refine W.region ?_
  refine L.v (o_move (v := (.int .i64 (1 + (((waveF gx gy m size turns).length : Nat) : Int)))) rfl) ?_
  refine L.v (o_ilss (a := 1 + (((waveF gx gy m size turns).length : Nat) : Int)) (b := 0) rfl rfl rfl) ?_
  refine L.nil ?_
  refine W.condF (b := decide ((1 + (((waveF gx gy m size turns).length : Nat) : Int) : Int) < 0)) rfl (decide_eq_false (by omega)) ?_
  refine W.skip ?_
  refine W.seq ?_
  refine W.seq ?_
  refine W.region ?_
  refine L.v (o_move (v := (.int .i64 (1 + (((waveF gx gy m size turns).length : Nat) : Int)))) rfl) ?_
  refine L.v (o_move (v := (.int .i64 (1 + (((waveF gx gy m size turns).length : Nat) : Int)))) rfl) ?_
  refine L.v (o_ineq (a := 1 + (((waveF gx gy m size turns).length : Nat) : Int)) (b := 1 + (((waveF gx gy m size turns).length : Nat) : Int)) (c := false) rfl rfl (by simp)) ?_
  refine L.nil ?_
  refine W.condF (b := false) rfl rfl ?_
  refine W.skip ?_
  refine W.seq ?_
  refine W.region ?_
  refine L.v (o_loads (b := b1) (off := 0) (vs := [(.int .i64 gx), (.int .i64 gy)]) Try.isAgg23 Try.sizeOf23 rfl rfl (Rds.of hb29 (by intro j v hj; simpa using hj))) ?_
  refine L.v (v := (.agg #[(.int .i64 gx), (.int .i64 gy)])) (op_call [(.agg #[(.int .i64 gx), (.int .i64 gy)])] Try.call12 rfl (toGrid_c gx gy)) ?_
  refine L.v (o_move (v := (.int .i64 m)) rfl) ?_
  refine L.v (o_move (v := (.float .f32 size)) rfl) ?_
  refine L.v (o_move (v := (.float .f32 turns)) rfl) ?_
  refine L.cons (op_call [(.agg #[(.int .i64 gx), (.int .i64 gy)]), (.int .i64 m), (.float .f32 size), (.float .f32 turns)] Try.call16 rfl (implWave gx gy m size turns)) ?_
  rintro _ s34 ⟨p32, c33, rfl, fs35⟩
  have ne36 := Fsl.ne fs35 hb29
  have ap37 : Apart ((waveF gx gy m size turns).length) ((waveF gx gy m size turns).length) p32 p7 := by simpa using Fsl.apart fs35 hs30 (fl_ne _)
  have ap38 : Apart ((waveF gx gy m size turns).length) ((waveF gx gy m size turns).length) p32 p15 := by simpa using Fsl.apart fs35 sl28 (marks32_ne _ _)
  have hb39 := fs35.ext _ _ hb29
  have hs40 := Sl.ext hs30 fs35.ext
  have mu41 := Mut.ext mu31 fs35.ext
  have hs42 := Sl.ext sl28 fs35.ext
  have mu43 := Fsl.mut fs35 ((waveF gx gy m size turns).length) (by simp)
  refine L.v (o_move (v := (.tuple #[(.slice p32 ((waveF gx gy m size turns).length) c33), (.bool (waveB gx gy m size turns))])) rfl) ?_
  refine L.v (o_extract (vs := #[(.slice p32 ((waveF gx gy m size turns).length) c33), (.bool (waveB gx gy m size turns))]) (v := (.slice p32 ((waveF gx gy m size turns).length) c33)) rfl rfl rfl) ?_
  refine L.v (o_extract (vs := #[(.slice p32 ((waveF gx gy m size turns).length) c33), (.bool (waveB gx gy m size turns))]) (v := (.bool (waveB gx gy m size turns))) rfl rfl rfl) ?_
  refine L.v (o_assign (v := (.slice p32 ((waveF gx gy m size turns).length) c33)) rfl) ?_
  refine L.v (o_assign (v := (.bool (waveB gx gy m size turns))) rfl) ?_
  refine L.nil ?_
  refine W.seq ?_
  refine W.seq ?_
  refine W.region ?_
  refine L.v (o_move (v := (.slice p32 ((waveF gx gy m size turns).length) c33)) rfl) ?_
  refine L.v (o_move (v := (.slice p7 ((waveF gx gy m size turns).length) c8)) rfl) ?_
  refine L.v (v := (.bool true)) (op_call [(.slice p32 ((waveF gx gy m size turns).length) c33), (.slice p7 ((waveF gx gy m size turns).length) c8)] Try.call17 rfl (eqF32S p32 p7 c33 c8 (waveF gx gy m size turns) (Fsl.reads fs35) hs40 (by first | omega | exact waveF_le _ _ _ _ _))) ?_
  refine L.v (o_not (b := true) (c := false) rfl rfl) ?_
  refine L.v (o_move (v := (.bool false)) rfl) ?_
  refine L.gv (j := 4) (d₁ := 68) (b := false) rfl rfl rfl rfl (o_move (v := (.bool (waveB gx gy m size turns))) rfl) ?_
  refine L.gv (j := 4) (d₁ := 68) (b := false) rfl rfl rfl rfl (o_move (v := (.bool (waveB gx gy m size turns))) rfl) ?_
  refine L.gv (j := 4) (d₁ := 68) (b := false) rfl rfl rfl rfl (o_bneq (a := waveB gx gy m size turns) (b := waveB gx gy m size turns) (c := false) Try.underlying4 rfl rfl (by simp)) ?_
  refine L.v (o_pickF (b := false) (v := (.bool false)) rfl rfl rfl) ?_
  refine L.nil ?_
  refine W.condF (b := false) rfl rfl ?_
  refine W.skip ?_
  refine W.seq ?_
  refine W.region ?_
  refine L.v (o_assign (v := (.int .i64 1)) rfl) ?_
  refine L.nil ?_
  refine W.seq ?_
  refine W.region ?_
  refine L.v (o_move (v := (.slice p15 ((waveF gx gy m size turns).length) c16)) rfl) ?_
  refine L.v (o_move (v := (.int .i64 1)) rfl) ?_
  refine L.v (v := (.int .i64 (1 + (((waveF gx gy m size turns).length : Nat) : Int)))) (op_call [(.slice p15 ((waveF gx gy m size turns).length) c16), (.int .i64 1)] Try.call19 rfl (heldF p15 ((waveF gx gy m size turns).length) c16 1 hs42 (by first | omega | exact waveF_le _ _ _ _ _) (by omega))) ?_
  refine L.v (o_assign (v := (.int .i64 (1 + (((waveF gx gy m size turns).length : Nat) : Int)))) rfl) ?_
  refine L.nil ?_
  refine W.seq ?_
  refine W.seq ?_
  refine W.region ?_
  refine L.v (o_move (v := (.int .i64 (1 + (((waveF gx gy m size turns).length : Nat) : Int)))) rfl) ?_
  refine L.v (o_ilss (a := 1 + (((waveF gx gy m size turns).length : Nat) : Int)) (b := 0) rfl rfl rfl) ?_
  refine L.nil ?_
  refine W.condF (b := decide ((1 + (((waveF gx gy m size turns).length : Nat) : Int) : Int) < 0)) rfl (decide_eq_false (by omega)) ?_
  refine W.skip ?_
  refine W.seq ?_
  refine W.seq ?_
  refine W.region ?_
  refine L.v (o_move (v := (.int .i64 (1 + (((waveF gx gy m size turns).length : Nat) : Int)))) rfl) ?_
  refine L.v (o_move (v := (.int .i64 (1 + (((waveF gx gy m size turns).length : Nat) : Int)))) rfl) ?_
  refine L.v (o_ineq (a := 1 + (((waveF gx gy m size turns).length : Nat) : Int)) (b := 1 + (((waveF gx gy m size turns).length : Nat) : Int)) (c := false) rfl rfl (by simp)) ?_
  refine L.nil ?_
  refine W.condF (b := false) rfl rfl ?_
  refine W.skip ?_
  refine W.seq ?_
  refine W.region ?_
  refine L.v (o_assign (v := (.bool true)) rfl) ?_
  refine L.nil ?_
  refine W.ret ?_
  exact RetK.one _ (.bool true) rfl rfl (Ext.refl _) rfl

end Go.Proofs.Ytnonlibekcacgaa.En
