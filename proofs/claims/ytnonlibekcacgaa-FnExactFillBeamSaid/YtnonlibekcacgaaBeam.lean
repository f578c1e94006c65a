/- FillBeam in the program and in the reference, and its law. -/
import Derived.Test.YtnonlibekcacgaaRecs
import Derived.Test.YtnonlibekcacgaaRows
namespace Go.Proofs.Ytnonlibekcacgaa.En
open Go
set_option linter.unusedVariables false
set_option maxRecDepth 100000
def rayAt (n size slope k : Nat) : Nat × Nat × Nat × Nat := (fop .mul .f32 size (sineA (fop .add .f32 (fop .quo .f32 (FloatKind.nearest .f32 (k : Int)) (FloatKind.nearest .f32 (n : Int))) 1048576000)), fop .mul .f32 slope (sineA (fop .quo .f32 (FloatKind.nearest .f32 (k : Int)) (FloatKind.nearest .f32 (n : Int)))), fop .quo .f32 (FloatKind.nearest .f32 (k : Int)) (FloatKind.nearest .f32 (n : Int)), 0)
def fillTo (n size slope k : Nat) : List (Nat × Nat × Nat × Nat) := (List.range k).map (rayAt n size slope)
theorem fillTo_len (n size slope k : Nat) : (fillTo n size slope k).length = k := by simp [fillTo]
theorem fillTo_succ (n size slope k : Nat) : fillTo n size slope (k + 1) = fillTo n size slope k ++ [rayAt n size slope k] := by simp [fillTo, List.range_succ]
def fillB (c : Int) (size slope : Nat) : Bool := decide (1 ≤ c ∧ c ≤ 256) && (finB size && finB slope)
def fillF (c : Int) (size slope : Nat) : List (Nat × Nat × Nat × Nat) := if fillB c size slope = true then fillTo c.toNat size slope c.toNat else []
theorem fillF_no {c : Int} {size slope : Nat} (h : fillB c size slope = false) : fillF c size slope = [] := if_neg (by rw [h]; decide)
theorem fillF_yes {n size slope : Nat} (h : fillB (n : Int) size slope = true) : fillF (n : Int) size slope = fillTo n size slope n := if_pos h
theorem fillF_le (c : Int) (size slope : Nat) : (fillF c size slope).length ≤ 1048576 := by
  cases h : fillB c size slope with
  | false => rw [fillF_no h]; simp
  | true =>
    rw [fillF, if_pos h, fillTo_len]
    simp only [fillB, Bool.and_eq_true, decide_eq_true_eq] at h
    omega
theorem specFill {w0 : World} {σ : Sg} (c : Int) (size slope : Nat) :
    Fn Try.prog w0 20 [(.int .i64 c), (.float .f32 size), (.float .f32 slope)] σ (RetFS w0 σ 3 ((fillF c size slope).map ry) (fillF c size slope).length (fun v => .tuple #[v, .bool (fillB c size slope)])) := by
  refine Fn.of_W 51 Try.func20 rfl Try.ntmps20 rfl ?_
  refine W.seq ?_
  refine W.region ?_
  refine L.v (o_assign (v := (.slice none 0 0)) rfl) ?_
  refine L.v (o_assign (v := (.bool false)) rfl) ?_
  refine L.nil ?_
  refine W.seq ?_
  refine W.seq ?_
  refine W.region ?_
  refine L.v (o_move (v := (.int .i64 c)) rfl) ?_
  refine L.v (v := (.bool (decide ((1 : Int) ≤ c ∧ (c : Int) ≤ 256)))) (op_call [(.int .i64 c), (.int .i64 1), (.int .i64 256)] Try.call47 rfl (withinS c 1 256)) ?_
  refine L.v (o_not (b := decide ((1 : Int) ≤ c ∧ (c : Int) ≤ 256)) rfl rfl) ?_
  refine L.v (o_move (v := (.bool (!(decide ((1 : Int) ≤ c ∧ (c : Int) ≤ 256))))) rfl) ?_
  rcases Bool.eq_false_or_eq_true (!(decide ((1 : Int) ≤ c ∧ (c : Int) ≤ 256))) with q1 | q1
  ·
    have a2 : ¬ ((1 : Int) ≤ c ∧ (c : Int) ≤ 256) := of_decide_eq_false (bn_t q1)
    refine L.gF (j := 3) (d₁ := 14) (b := !(decide ((1 : Int) ≤ c ∧ (c : Int) ≤ 256))) rfl rfl rfl q1 ?_
    refine L.gF (j := 3) (d₁ := 14) (b := !(decide ((1 : Int) ≤ c ∧ (c : Int) ≤ 256))) rfl rfl rfl q1 ?_
    refine L.gF (j := 3) (d₁ := 14) (b := !(decide ((1 : Int) ≤ c ∧ (c : Int) ≤ 256))) rfl rfl rfl q1 ?_
    refine L.v (o_pickT (b := !(decide ((1 : Int) ≤ c ∧ (c : Int) ≤ 256))) (v := (.bool true)) rfl q1 rfl) ?_
    refine L.v (o_move (v := (.bool true)) rfl) ?_
    refine L.gF (j := 8) (d₁ := 19) (b := true) rfl rfl rfl rfl ?_
    refine L.gF (j := 8) (d₁ := 19) (b := true) rfl rfl rfl rfl ?_
    refine L.gF (j := 8) (d₁ := 19) (b := true) rfl rfl rfl rfl ?_
    refine L.v (o_pickT (b := true) (v := (.bool true)) rfl rfl rfl) ?_
    refine L.nil ?_
    refine W.condT (b := true) rfl rfl ?_
    refine W.seq ?_
    refine W.region ?_
    refine L.v (o_assign (v := (.slice none 0 0)) rfl) ?_
    refine L.v (o_assign (v := (.bool false)) rfl) ?_
    refine L.nil ?_
    refine W.ret ?_
    have hwn : fillB c size slope = false := (by unfold fillB; cases hfs : finB size <;> cases hft : finB slope <;> by_cases g1 : 1 ≤ c ∧ c ≤ 256 <;> simp_all <;> omega)
    exact RetK.two σ (.slice none 0 0) (.bool false) rfl rfl rfl rfl rfl (Ext.refl _) ⟨none, 0, by rw [fillF_no hwn, hwn]; rfl, by rw [fillF_no hwn]; exact Fsl.nil 3⟩
  ·
    have a3 : (1 : Int) ≤ c ∧ (c : Int) ≤ 256 := of_decide_eq_true (bn_f q1)
    refine L.gv (j := 3) (d₁ := 14) (b := !(decide ((1 : Int) ≤ c ∧ (c : Int) ≤ 256))) rfl rfl rfl q1 (o_move (v := (.float .f32 size)) rfl) ?_
    refine L.gv (j := 3) (d₁ := 14) (b := !(decide ((1 : Int) ≤ c ∧ (c : Int) ≤ 256))) rfl rfl rfl q1 (v := (.bool (finB size))) (op_call [(.float .f32 size)] Try.call52 rfl (specFin size)) ?_
    refine L.gv (j := 3) (d₁ := 14) (b := !(decide ((1 : Int) ≤ c ∧ (c : Int) ≤ 256))) rfl rfl rfl q1 (o_not (b := finB size) rfl rfl) ?_
    refine L.v (o_pickF (b := !(decide ((1 : Int) ≤ c ∧ (c : Int) ≤ 256))) (v := (.bool (!(finB size)))) rfl q1 rfl) ?_
    refine L.v (o_move (v := (.bool (!(finB size)))) rfl) ?_
    rcases Bool.eq_false_or_eq_true (!(finB size)) with q4 | q4
    ·
      refine L.gF (j := 8) (d₁ := 19) (b := !(finB size)) rfl rfl rfl q4 ?_
      refine L.gF (j := 8) (d₁ := 19) (b := !(finB size)) rfl rfl rfl q4 ?_
      refine L.gF (j := 8) (d₁ := 19) (b := !(finB size)) rfl rfl rfl q4 ?_
      refine L.v (o_pickT (b := !(finB size)) (v := (.bool true)) rfl q4 rfl) ?_
      refine L.nil ?_
      refine W.condT (b := true) rfl rfl ?_
      refine W.seq ?_
      refine W.region ?_
      refine L.v (o_assign (v := (.slice none 0 0)) rfl) ?_
      refine L.v (o_assign (v := (.bool false)) rfl) ?_
      refine L.nil ?_
      refine W.ret ?_
      have hwn : fillB c size slope = false := (by unfold fillB; cases hfs : finB size <;> cases hft : finB slope <;> by_cases g1 : 1 ≤ c ∧ c ≤ 256 <;> simp_all <;> omega)
      exact RetK.two σ (.slice none 0 0) (.bool false) rfl rfl rfl rfl rfl (Ext.refl _) ⟨none, 0, by rw [fillF_no hwn, hwn]; rfl, by rw [fillF_no hwn]; exact Fsl.nil 3⟩
    ·
      refine L.gv (j := 8) (d₁ := 19) (b := !(finB size)) rfl rfl rfl q4 (o_move (v := (.float .f32 slope)) rfl) ?_
      refine L.gv (j := 8) (d₁ := 19) (b := !(finB size)) rfl rfl rfl q4 (v := (.bool (finB slope))) (op_call [(.float .f32 slope)] Try.call52 rfl (specFin slope)) ?_
      refine L.gv (j := 8) (d₁ := 19) (b := !(finB size)) rfl rfl rfl q4 (o_not (b := finB slope) rfl rfl) ?_
      refine L.v (o_pickF (b := !(finB size)) (v := (.bool (!(finB slope)))) rfl q4 rfl) ?_
      refine L.nil ?_
      refine W.cond (b := !(finB slope)) rfl (fun q5 => ?_) (fun q5 => ?_)
      ·
        refine W.seq ?_
        refine W.region ?_
        refine L.v (o_assign (v := (.slice none 0 0)) rfl) ?_
        refine L.v (o_assign (v := (.bool false)) rfl) ?_
        refine L.nil ?_
        refine W.ret ?_
        have hwn : fillB c size slope = false := (by unfold fillB; cases hfs : finB size <;> cases hft : finB slope <;> by_cases g1 : 1 ≤ c ∧ c ≤ 256 <;> simp_all <;> omega)
        exact RetK.two σ (.slice none 0 0) (.bool false) rfl rfl rfl rfl rfl (Ext.refl _) ⟨none, 0, by rw [fillF_no hwn, hwn]; rfl, by rw [fillF_no hwn]; exact Fsl.nil 3⟩
      ·
        refine W.skip ?_
        refine W.seq ?_
        obtain ⟨n, rfl⟩ : ∃ n : Nat, c = (n : Int) := ⟨c.toNat, by omega⟩
        refine W.region ?_
        refine L.cons (o_buildSlice0 (info := Try.t82) Try.underlying38 Try.type82) ?_
        rintro _ _ ⟨b6, hf7, hw8, rfl, rfl⟩
        have ho0 := Own.new (σ := σ) (e := 82) 3 hw8
        have hx0 : Ext σ (sg σ b6 (82, [])) := (Ext.refl _).sg hf7
        have hv0 := ownAt (n := 0) (c := 0) hf7
        refine L.v (o_assign (v := (.slice (some ⟨b6, 0, none⟩) 0 0)) rfl) ?_
        refine L.nil ?_
        refine W.seq ?_
        refine W.seq ?_
        refine W.region ?_
        refine L.v (o_assign (v := (.int .i64 0)) rfl) ?_
        refine L.nil ?_
        refine W.block ?_
        refine W.loop (fun nn tt ss => ∃ (k : Nat) (v : Value), nn = n - k ∧ k ≤ n ∧ Own w0 ss 82 3 v (k) (((fillTo n size slope (k)).map ry).flatten) ∧ Ext σ ss ∧ (∀ b, v.ownBlock = some b → σ b = none) ∧ FrOk tt [(0, (.int .i64 (n : Int))), (1, (.float .f32 size)), (2, (.float .f32 slope)), (8, v), (9, (.int .i64 (k : Int)))]) _ ⟨0, (.slice (some ⟨b6, 0, none⟩) 0 0), rfl, by omega, ho0, hx0, hv0, ⟨rfl, rfl, rfl, rfl, rfl, trivial⟩⟩ ?_
        rintro _ tz9 sz9 ⟨k, vz9, rfl, hik, hoz9, hxz9, hvz9, fz9⟩
        replace fz9 : (upd (upd (upd (upd (upd tz9 0 (.int .i64 (n : Int))) 1 (.float .f32 size)) 2 (.float .f32 slope)) 8 vz9) 9 (.int .i64 (k : Int))) = tz9 := frame_ok fz9
        rw [← fz9]
        clear fz9
        refine W.seq ?_
        refine W.seq ?_
        refine W.region ?_
        refine L.v (o_move (v := (.int .i64 (k : Int))) rfl) ?_
        refine L.v (o_move (v := (.int .i64 (n : Int))) rfl) ?_
        refine L.v (o_ilss (a := (k : Int)) (b := (n : Int)) rfl rfl rfl) ?_
        refine L.nil ?_
        refine W.cond (b := decide (((k : Int) : Int) < (n : Int))) rfl (fun q10 => ?_) (fun q10 => ?_)
        ·
          have a11 : ((k : Int) : Int) < (n : Int) := of_decide_eq_true q10
          refine W.skip ?_
          refine W.seq ?_
          refine W.block ?_
          refine W.seq ?_
          refine W.region ?_
          refine L.v (o_move (v := (.int .i64 (k : Int))) rfl) ?_
          refine L.v (o_cvIF (a := (k : Int)) (by rw [Try.underlying2]; rfl) Try.underlying24 rfl) ?_
          refine L.v (o_move (v := (.int .i64 (n : Int))) rfl) ?_
          refine L.v (o_cvIF (a := (n : Int)) (by rw [Try.underlying2]; rfl) Try.underlying24 rfl) ?_
          refine L.v (o_farith (k := .f32) (a := FloatKind.nearest .f32 (k : Int)) (b := FloatKind.nearest .f32 (n : Int)) rfl rfl rfl) ?_
          refine L.v (o_assign (v := (.float .f32 (fop .quo .f32 (FloatKind.nearest .f32 (k : Int)) (FloatKind.nearest .f32 (n : Int))))) rfl) ?_
          refine L.nil ?_
          refine W.region ?_
          refine L.v (o_move (v := vz9) rfl) ?_
          refine L.v (o_move (v := (.float .f32 size)) rfl) ?_
          refine L.v (o_move (v := (.float .f32 (fop .quo .f32 (FloatKind.nearest .f32 (k : Int)) (FloatKind.nearest .f32 (n : Int))))) rfl) ?_
          refine L.v (o_farith (k := .f32) (a := fop .quo .f32 (FloatKind.nearest .f32 (k : Int)) (FloatKind.nearest .f32 (n : Int))) (b := 1048576000) rfl rfl rfl) ?_
          refine L.v (v := (.float .f32 (sineA (fop .add .f32 (fop .quo .f32 (FloatKind.nearest .f32 (k : Int)) (FloatKind.nearest .f32 (n : Int))) 1048576000)))) (op_call [(.float .f32 (fop .add .f32 (fop .quo .f32 (FloatKind.nearest .f32 (k : Int)) (FloatKind.nearest .f32 (n : Int))) 1048576000))] Try.call53 rfl (specSine (fop .add .f32 (fop .quo .f32 (FloatKind.nearest .f32 (k : Int)) (FloatKind.nearest .f32 (n : Int))) 1048576000))) ?_
          refine L.v (o_farith (k := .f32) (a := size) (b := sineA (fop .add .f32 (fop .quo .f32 (FloatKind.nearest .f32 (k : Int)) (FloatKind.nearest .f32 (n : Int))) 1048576000)) rfl rfl rfl) ?_
          refine L.v (o_move (v := (.float .f32 slope)) rfl) ?_
          refine L.v (o_move (v := (.float .f32 (fop .quo .f32 (FloatKind.nearest .f32 (k : Int)) (FloatKind.nearest .f32 (n : Int))))) rfl) ?_
          refine L.v (v := (.float .f32 (sineA (fop .quo .f32 (FloatKind.nearest .f32 (k : Int)) (FloatKind.nearest .f32 (n : Int)))))) (op_call [(.float .f32 (fop .quo .f32 (FloatKind.nearest .f32 (k : Int)) (FloatKind.nearest .f32 (n : Int))))] Try.call53 rfl (specSine (fop .quo .f32 (FloatKind.nearest .f32 (k : Int)) (FloatKind.nearest .f32 (n : Int))))) ?_
          refine L.v (o_farith (k := .f32) (a := slope) (b := sineA (fop .quo .f32 (FloatKind.nearest .f32 (k : Int)) (FloatKind.nearest .f32 (n : Int)))) rfl rfl rfl) ?_
          refine L.v (o_complex (k := .f32) (a := fop .mul .f32 size (sineA (fop .add .f32 (fop .quo .f32 (FloatKind.nearest .f32 (k : Int)) (FloatKind.nearest .f32 (n : Int))) 1048576000))) (b := fop .mul .f32 slope (sineA (fop .quo .f32 (FloatKind.nearest .f32 (k : Int)) (FloatKind.nearest .f32 (n : Int))))) rfl rfl) ?_
          refine L.v (o_move (v := (.float .f32 (fop .quo .f32 (FloatKind.nearest .f32 (k : Int)) (FloatKind.nearest .f32 (n : Int))))) rfl) ?_
          refine L.v (v := (.agg #[(.complex .f32 (fop .mul .f32 size (sineA (fop .add .f32 (fop .quo .f32 (FloatKind.nearest .f32 (k : Int)) (FloatKind.nearest .f32 (n : Int))) 1048576000))) (fop .mul .f32 slope (sineA (fop .quo .f32 (FloatKind.nearest .f32 (k : Int)) (FloatKind.nearest .f32 (n : Int)))))), (.float .f32 (fop .quo .f32 (FloatKind.nearest .f32 (k : Int)) (FloatKind.nearest .f32 (n : Int)))), (.float .f32 0)])) (o_build_cf (rest := [.float .f32 0]) (by intro a b c; kernel_rfl) rfl rfl) ?_
          refine L.cons (o_buildSlice1 (info := Try.t82) (z := (.agg #[.complex .f32 0 0, .float .f32 0, .float .f32 0])) (k := 3) [(.complex .f32 (fop .mul .f32 size (sineA (fop .add .f32 (fop .quo .f32 (FloatKind.nearest .f32 (k : Int)) (FloatKind.nearest .f32 (n : Int))) 1048576000))) (fop .mul .f32 slope (sineA (fop .quo .f32 (FloatKind.nearest .f32 (k : Int)) (FloatKind.nearest .f32 (n : Int)))))), (.float .f32 (fop .quo .f32 (FloatKind.nearest .f32 (k : Int)) (FloatKind.nearest .f32 (n : Int)))), (.float .f32 0)] Try.underlying38 Try.type82 rfl rfl rfl rfl (by decide) rfl) ?_
          rintro _ _ ⟨b12, hf13, hw14, rfl, rfl⟩
          have hx15 := Ext.trans hxz9 ((Ext.refl _).sg (x := (82, [(.complex .f32 (fop .mul .f32 size (sineA (fop .add .f32 (fop .quo .f32 (FloatKind.nearest .f32 (k : Int)) (FloatKind.nearest .f32 (n : Int))) 1048576000))) (fop .mul .f32 slope (sineA (fop .quo .f32 (FloatKind.nearest .f32 (k : Int)) (FloatKind.nearest .f32 (n : Int)))))), (.float .f32 (fop .quo .f32 (FloatKind.nearest .f32 (k : Int)) (FloatKind.nearest .f32 (n : Int)))), (.float .f32 0)])) hf13)
          have ho16 := Own.ext hoz9 ((Ext.refl _).sg (x := (82, [(.complex .f32 (fop .mul .f32 size (sineA (fop .add .f32 (fop .quo .f32 (FloatKind.nearest .f32 (k : Int)) (FloatKind.nearest .f32 (n : Int))) 1048576000))) (fop .mul .f32 slope (sineA (fop .quo .f32 (FloatKind.nearest .f32 (k : Int)) (FloatKind.nearest .f32 (n : Int)))))), (.float .f32 (fop .quo .f32 (FloatKind.nearest .f32 (k : Int)) (FloatKind.nearest .f32 (n : Int)))), (.float .f32 0)])) hf13)
          refine L.cons (o_append (info := Try.t82) (z := (.agg #[.complex .f32 0 0, .float .f32 0, .float .f32 0])) (size := 3) (bytes := 16) (v := vz9) (n := k) (m := 1) (c := 1) (b := b12) (off := 0) (xs := ((fillTo n size slope (k)).map ry).flatten) (news := [(.complex .f32 (fop .mul .f32 size (sineA (fop .add .f32 (fop .quo .f32 (FloatKind.nearest .f32 (k : Int)) (FloatKind.nearest .f32 (n : Int))) 1048576000))) (fop .mul .f32 slope (sineA (fop .quo .f32 (FloatKind.nearest .f32 (k : Int)) (FloatKind.nearest .f32 (n : Int)))))), (.float .f32 (fop .quo .f32 (FloatKind.nearest .f32 (k : Int)) (FloatKind.nearest .f32 (n : Int)))), (.float .f32 0)]) Try.underlying38 Try.type82 rfl rfl rfl rfl rfl ho16 rfl (by decide) rfl (Rds.of (sg_eq _ _ _) (by intro j v hj; simpa using hj)) (by simp [Value.oneCell']) (by unfold maxLen; omega) (by omega)) ?_
          rintro v17 s18 ⟨ho19, gr20⟩
          have hx21 := Grew.ext gr20 hx15 hvz9
          have hv22 := Grew.fresh gr20 hx15 hvz9
          refine L.v (o_assign (v := v17) rfl) ?_
          refine L.nil ?_
          refine W.region ?_
          refine L.v (o_move (v := (.int .i64 (k : Int))) rfl) ?_
          refine L.v (o_iadd (a := (k : Int)) (b := 1) (c := ((k + 1 : Nat) : Int)) rfl rfl (by rw [IntWalk.i64_in _ (by omega)]; try omega)) ?_
          refine L.v (o_assign (v := (.int .i64 (((k + 1 : Nat) : Int)))) rfl) ?_
          refine L.nil ?_
          exact ⟨_, (by omega), k + 1, v17, rfl, by omega, (by rw [fillTo_succ, List.map_append, List.flatten_append]; exact ho19), hx21, hv22, ⟨rfl, rfl, rfl, rfl, rfl, trivial⟩⟩
        ·
          have a23 : ¬ (((k : Int) : Int) < (n : Int)) := of_decide_eq_false q10
          refine W.exit ?_
          refine W.seq ?_
          refine W.region ?_
          refine L.v (o_move (v := vz9) rfl) ?_
          refine L.v (o_assign (v := vz9) rfl) ?_
          refine L.v (o_assign (v := (.bool true)) rfl) ?_
          refine L.nil ?_
          refine W.ret ?_
          obtain rfl : n = k := by omega
          have hwb : fillB (n : Int) size slope = true := by unfold fillB; cases hfs : finB size <;> cases hft : finB slope <;> by_cases g1 : 1 ≤ (n : Int) ∧ (n : Int) ≤ 256 <;> simp_all <;> omega
          obtain ⟨p', c', hpc, hfs⟩ := Fsl.of_own (rows := (fillTo n size slope n).map ry) (n := n) hoz9 (by rw [List.length_map, fillTo_len]) (ry_all _) hxz9 hvz9
          subst hpc
          exact RetK.two _ (.slice p' n c') (.bool true) rfl rfl rfl rfl rfl (Ext.refl _) ⟨p', c', by rw [fillF_yes hwb, hwb, fillTo_len], by rw [fillF_yes hwb]; exact Fsl.weaken hfs (Ext.refl _)⟩

theorem implFill {w0 : World} {σ : Sg} (c : Int) (size slope : Nat) :
    Fn Try.prog w0 21 [(.int .i64 c), (.float .f32 size), (.float .f32 slope)] σ (RetFS w0 σ 3 ((fillF c size slope).map ry) (fillF c size slope).length (fun v => .tuple #[v, .bool (fillB c size slope)])) := by
  refine Fn.of_W 47 Try.func21 rfl Try.ntmps21 rfl ?_
  refine W.seq ?_
  refine W.region ?_
  refine L.v (o_assign (v := (.slice none 0 0)) rfl) ?_
  refine L.v (o_assign (v := (.bool false)) rfl) ?_
  refine L.nil ?_
  refine W.seq ?_
  refine W.seq ?_
  refine W.region ?_
  refine L.v (o_move (v := (.int .i64 c)) rfl) ?_
  refine L.v (v := (.bool (decide ((1 : Int) ≤ c ∧ (c : Int) ≤ 256)))) (op_call [(.int .i64 c), (.int .i64 1), (.int .i64 256)] Try.call50 rfl (withinI c 1 256)) ?_
  refine L.v (o_not (b := decide ((1 : Int) ≤ c ∧ (c : Int) ≤ 256)) rfl rfl) ?_
  refine L.v (o_move (v := (.bool (!(decide ((1 : Int) ≤ c ∧ (c : Int) ≤ 256))))) rfl) ?_
  rcases Bool.eq_false_or_eq_true (!(decide ((1 : Int) ≤ c ∧ (c : Int) ≤ 256))) with q1 | q1
  ·
    have a2 : ¬ ((1 : Int) ≤ c ∧ (c : Int) ≤ 256) := of_decide_eq_false (bn_t q1)
    refine L.gF (j := 3) (d₁ := 14) (b := !(decide ((1 : Int) ≤ c ∧ (c : Int) ≤ 256))) rfl rfl rfl q1 ?_
    refine L.gF (j := 3) (d₁ := 14) (b := !(decide ((1 : Int) ≤ c ∧ (c : Int) ≤ 256))) rfl rfl rfl q1 ?_
    refine L.gF (j := 3) (d₁ := 14) (b := !(decide ((1 : Int) ≤ c ∧ (c : Int) ≤ 256))) rfl rfl rfl q1 ?_
    refine L.gF (j := 3) (d₁ := 14) (b := !(decide ((1 : Int) ≤ c ∧ (c : Int) ≤ 256))) rfl rfl rfl q1 ?_
    refine L.gF (j := 3) (d₁ := 14) (b := !(decide ((1 : Int) ≤ c ∧ (c : Int) ≤ 256))) rfl rfl rfl q1 ?_
    refine L.v (o_pickT (b := !(decide ((1 : Int) ≤ c ∧ (c : Int) ≤ 256))) (v := (.bool true)) rfl q1 rfl) ?_
    refine L.nil ?_
    refine W.condT (b := true) rfl rfl ?_
    refine W.seq ?_
    refine W.region ?_
    refine L.v (o_assign (v := (.slice none 0 0)) rfl) ?_
    refine L.v (o_assign (v := (.bool false)) rfl) ?_
    refine L.nil ?_
    refine W.ret ?_
    have hwn : fillB c size slope = false := (by unfold fillB; cases hfs : finB size <;> cases hft : finB slope <;> by_cases g1 : 1 ≤ c ∧ c ≤ 256 <;> simp_all <;> omega)
    exact RetK.two σ (.slice none 0 0) (.bool false) rfl rfl rfl rfl rfl (Ext.refl _) ⟨none, 0, by rw [fillF_no hwn, hwn]; rfl, by rw [fillF_no hwn]; exact Fsl.nil 3⟩
  ·
    have a3 : (1 : Int) ≤ c ∧ (c : Int) ≤ 256 := of_decide_eq_true (bn_f q1)
    refine L.gv (j := 3) (d₁ := 14) (b := !(decide ((1 : Int) ≤ c ∧ (c : Int) ≤ 256))) rfl rfl rfl q1 (o_move (v := (.float .f32 size)) rfl) ?_
    refine L.gv (j := 3) (d₁ := 14) (b := !(decide ((1 : Int) ≤ c ∧ (c : Int) ≤ 256))) rfl rfl rfl q1 (o_move (v := (.float .f32 slope)) rfl) ?_
    refine L.gT (j := 3) (d₁ := 14) (b := !(decide ((1 : Int) ≤ c ∧ (c : Int) ≤ 256))) rfl rfl rfl q1 (o_buildSlice (info := Try.t24) (z := .float .f32 0) [(.float .f32 size), (.float .f32 slope)] Try.underlying32 Try.type24 rfl rfl rfl rfl (by decide) rfl rfl (by simp [Value.oneCell'])) ?_
    rintro _ _ ⟨b4, hf5, hw6, rfl, rfl⟩
    have fz10 := Ext.none (Ext.refl _) hf5
    have hb9 : (sg σ b4 (24, [(.float .f32 size), (.float .f32 slope)])) b4 = some (24, [(.float .f32 size), (.float .f32 slope)]) := sg_eq _ _ _
    have hx8 : Ext σ (sg σ b4 (24, [(.float .f32 size), (.float .f32 slope)])) := (Ext.refl _).sg hf5
    have ehx8 := Ext.trans (Ext.refl _) hx8
    generalize hgs7 : sg σ b4 (24, [(.float .f32 size), (.float .f32 slope)]) = s7 at *
    clear hgs7
    refine L.gv (j := 3) (d₁ := 14) (b := !(decide ((1 : Int) ≤ c ∧ (c : Int) ≤ 256))) rfl rfl rfl q1 (v := (.bool (finB size && finB slope))) (op_call [(.slice (some ⟨b4, 0, none⟩) 2 2)] Try.call54 rfl (areFin2 b4 0 size slope (Sl.of (e := 24) (f := fl) (xs := [size, slope]) hb9 (by simp [fl])))) ?_
    refine L.gv (j := 3) (d₁ := 14) (b := !(decide ((1 : Int) ≤ c ∧ (c : Int) ≤ 256))) rfl rfl rfl q1 (o_not (b := finB size && finB slope) rfl rfl) ?_
    refine L.v (o_pickF (b := !(decide ((1 : Int) ≤ c ∧ (c : Int) ≤ 256))) (v := (.bool (!(finB size && finB slope)))) rfl q1 rfl) ?_
    refine L.nil ?_
    refine W.cond (b := !(finB size && finB slope)) rfl (fun q11 => ?_) (fun q11 => ?_)
    ·
      refine W.seq ?_
      refine W.region ?_
      refine L.v (o_assign (v := (.slice none 0 0)) rfl) ?_
      refine L.v (o_assign (v := (.bool false)) rfl) ?_
      refine L.nil ?_
      refine W.ret ?_
      have hwn : fillB c size slope = false := (by unfold fillB; cases hfs : finB size <;> cases hft : finB slope <;> by_cases g1 : 1 ≤ c ∧ c ≤ 256 <;> simp_all <;> omega)
      exact RetK.two σ (.slice none 0 0) (.bool false) rfl rfl rfl rfl rfl ehx8 ⟨none, 0, by rw [fillF_no hwn, hwn]; rfl, by rw [fillF_no hwn]; exact Fsl.nil 3⟩
    ·
      refine W.skip ?_
      refine W.seq ?_
      obtain ⟨n, rfl⟩ : ∃ n : Nat, c = (n : Int) := ⟨c.toNat, by omega⟩
      refine W.region ?_
      refine L.v (o_assign (v := (.slice none 0 0)) rfl) ?_
      refine L.nil ?_
      refine W.seq ?_
      refine W.seq ?_
      refine W.region ?_
      refine L.v (o_move (v := (.int .i64 (n : Int))) rfl) ?_
      refine L.v (o_move (v := (.int .i64 0)) rfl) ?_
      refine L.nil ?_
      refine W.block ?_
      have ho0 := Own.nil (w0 := w0) (σ := s7) 82 3
      have hx0 := Ext.refl s7
      have hv0 := ownNil (σ := s7)
      refine W.loop (fun nn tt ss => ∃ (k : Nat) (v : Value), nn = n - k ∧ k ≤ n ∧ Own w0 ss 82 3 v (k) (((fillTo n size slope (k)).map ry).flatten) ∧ Ext s7 ss ∧ (∀ b, v.ownBlock = some b → s7 b = none) ∧ FrOk tt [(0, (.int .i64 (n : Int))), (1, (.float .f32 size)), (2, (.float .f32 slope)), (8, v), (21, (.int .i64 (n : Int))), (22, (.int .i64 (k : Int)))]) _ ⟨0, (.slice none 0 0), rfl, by omega, ho0, hx0, hv0, ⟨rfl, rfl, rfl, rfl, rfl, rfl, trivial⟩⟩ ?_
      rintro _ tz12 sz12 ⟨k, vz12, rfl, hik, hoz12, hxz12, hvz12, fz12⟩
      replace fz12 : (upd (upd (upd (upd (upd (upd tz12 0 (.int .i64 (n : Int))) 1 (.float .f32 size)) 2 (.float .f32 slope)) 8 vz12) 21 (.int .i64 (n : Int))) 22 (.int .i64 (k : Int))) = tz12 := frame_ok fz12
      rw [← fz12]
      clear fz12
      refine W.seq ?_
      refine W.region ?_
      refine L.v (o_ilss (a := (k : Int)) (b := (n : Int)) rfl rfl rfl) ?_
      refine L.nil ?_
      refine W.seq ?_
      refine W.cond (b := decide (((k : Int) : Int) < (n : Int))) rfl (fun q13 => ?_) (fun q13 => ?_)
      ·
        have a14 : ((k : Int) : Int) < (n : Int) := of_decide_eq_true q13
        refine W.skip ?_
        refine W.seq ?_
        refine W.block ?_
        refine W.seq ?_
        refine W.region ?_
        refine L.v (o_move (v := (.int .i64 (k : Int))) rfl) ?_
        refine L.v (o_assign (v := (.int .i64 (k : Int))) rfl) ?_
        refine L.nil ?_
        refine W.seq ?_
        refine W.region ?_
        refine L.v (o_move (v := (.int .i64 (k : Int))) rfl) ?_
        refine L.v (o_cvIF (a := (k : Int)) (by rw [Try.underlying2]; rfl) Try.underlying24 rfl) ?_
        refine L.v (o_move (v := (.int .i64 (n : Int))) rfl) ?_
        refine L.v (o_cvIF (a := (n : Int)) (by rw [Try.underlying2]; rfl) Try.underlying24 rfl) ?_
        refine L.v (o_farith (k := .f32) (a := FloatKind.nearest .f32 (k : Int)) (b := FloatKind.nearest .f32 (n : Int)) rfl rfl rfl) ?_
        refine L.v (o_assign (v := (.float .f32 (fop .quo .f32 (FloatKind.nearest .f32 (k : Int)) (FloatKind.nearest .f32 (n : Int))))) rfl) ?_
        refine L.nil ?_
        refine W.region ?_
        refine L.v (o_move (v := vz12) rfl) ?_
        refine L.v (o_move (v := (.float .f32 size)) rfl) ?_
        refine L.v (o_move (v := (.float .f32 (fop .quo .f32 (FloatKind.nearest .f32 (k : Int)) (FloatKind.nearest .f32 (n : Int))))) rfl) ?_
        refine L.v (o_farith (k := .f32) (a := fop .quo .f32 (FloatKind.nearest .f32 (k : Int)) (FloatKind.nearest .f32 (n : Int))) (b := 1048576000) rfl rfl rfl) ?_
        refine L.v (v := (.float .f32 (sineA (fop .add .f32 (fop .quo .f32 (FloatKind.nearest .f32 (k : Int)) (FloatKind.nearest .f32 (n : Int))) 1048576000)))) (op_call [(.float .f32 (fop .add .f32 (fop .quo .f32 (FloatKind.nearest .f32 (k : Int)) (FloatKind.nearest .f32 (n : Int))) 1048576000))] Try.call55 rfl (implSine (fop .add .f32 (fop .quo .f32 (FloatKind.nearest .f32 (k : Int)) (FloatKind.nearest .f32 (n : Int))) 1048576000))) ?_
        refine L.v (o_farith (k := .f32) (a := size) (b := sineA (fop .add .f32 (fop .quo .f32 (FloatKind.nearest .f32 (k : Int)) (FloatKind.nearest .f32 (n : Int))) 1048576000)) rfl rfl rfl) ?_
        refine L.v (o_move (v := (.float .f32 slope)) rfl) ?_
        refine L.v (o_move (v := (.float .f32 (fop .quo .f32 (FloatKind.nearest .f32 (k : Int)) (FloatKind.nearest .f32 (n : Int))))) rfl) ?_
        refine L.v (v := (.float .f32 (sineA (fop .quo .f32 (FloatKind.nearest .f32 (k : Int)) (FloatKind.nearest .f32 (n : Int)))))) (op_call [(.float .f32 (fop .quo .f32 (FloatKind.nearest .f32 (k : Int)) (FloatKind.nearest .f32 (n : Int))))] Try.call55 rfl (implSine (fop .quo .f32 (FloatKind.nearest .f32 (k : Int)) (FloatKind.nearest .f32 (n : Int))))) ?_
        refine L.v (o_farith (k := .f32) (a := slope) (b := sineA (fop .quo .f32 (FloatKind.nearest .f32 (k : Int)) (FloatKind.nearest .f32 (n : Int)))) rfl rfl rfl) ?_
        refine L.v (o_complex (k := .f32) (a := fop .mul .f32 size (sineA (fop .add .f32 (fop .quo .f32 (FloatKind.nearest .f32 (k : Int)) (FloatKind.nearest .f32 (n : Int))) 1048576000))) (b := fop .mul .f32 slope (sineA (fop .quo .f32 (FloatKind.nearest .f32 (k : Int)) (FloatKind.nearest .f32 (n : Int))))) rfl rfl) ?_
        refine L.v (o_move (v := (.float .f32 (fop .quo .f32 (FloatKind.nearest .f32 (k : Int)) (FloatKind.nearest .f32 (n : Int))))) rfl) ?_
        refine L.v (v := (.agg #[(.complex .f32 (fop .mul .f32 size (sineA (fop .add .f32 (fop .quo .f32 (FloatKind.nearest .f32 (k : Int)) (FloatKind.nearest .f32 (n : Int))) 1048576000))) (fop .mul .f32 slope (sineA (fop .quo .f32 (FloatKind.nearest .f32 (k : Int)) (FloatKind.nearest .f32 (n : Int)))))), (.float .f32 (fop .quo .f32 (FloatKind.nearest .f32 (k : Int)) (FloatKind.nearest .f32 (n : Int)))), (.float .f32 0)])) (o_build_cf (rest := [.float .f32 0]) (by intro a b c; kernel_rfl) rfl rfl) ?_
        refine L.cons (o_buildSlice1 (info := Try.t82) (z := (.agg #[.complex .f32 0 0, .float .f32 0, .float .f32 0])) (k := 3) [(.complex .f32 (fop .mul .f32 size (sineA (fop .add .f32 (fop .quo .f32 (FloatKind.nearest .f32 (k : Int)) (FloatKind.nearest .f32 (n : Int))) 1048576000))) (fop .mul .f32 slope (sineA (fop .quo .f32 (FloatKind.nearest .f32 (k : Int)) (FloatKind.nearest .f32 (n : Int)))))), (.float .f32 (fop .quo .f32 (FloatKind.nearest .f32 (k : Int)) (FloatKind.nearest .f32 (n : Int)))), (.float .f32 0)] Try.underlying38 Try.type82 rfl rfl rfl rfl (by decide) rfl) ?_
        rintro _ _ ⟨b15, hf16, hw17, rfl, rfl⟩
        have hx18 := Ext.trans hxz12 ((Ext.refl _).sg (x := (82, [(.complex .f32 (fop .mul .f32 size (sineA (fop .add .f32 (fop .quo .f32 (FloatKind.nearest .f32 (k : Int)) (FloatKind.nearest .f32 (n : Int))) 1048576000))) (fop .mul .f32 slope (sineA (fop .quo .f32 (FloatKind.nearest .f32 (k : Int)) (FloatKind.nearest .f32 (n : Int)))))), (.float .f32 (fop .quo .f32 (FloatKind.nearest .f32 (k : Int)) (FloatKind.nearest .f32 (n : Int)))), (.float .f32 0)])) hf16)
        have ho19 := Own.ext hoz12 ((Ext.refl _).sg (x := (82, [(.complex .f32 (fop .mul .f32 size (sineA (fop .add .f32 (fop .quo .f32 (FloatKind.nearest .f32 (k : Int)) (FloatKind.nearest .f32 (n : Int))) 1048576000))) (fop .mul .f32 slope (sineA (fop .quo .f32 (FloatKind.nearest .f32 (k : Int)) (FloatKind.nearest .f32 (n : Int)))))), (.float .f32 (fop .quo .f32 (FloatKind.nearest .f32 (k : Int)) (FloatKind.nearest .f32 (n : Int)))), (.float .f32 0)])) hf16)
        refine L.cons (o_append (info := Try.t82) (z := (.agg #[.complex .f32 0 0, .float .f32 0, .float .f32 0])) (size := 3) (bytes := 16) (v := vz12) (n := k) (m := 1) (c := 1) (b := b15) (off := 0) (xs := ((fillTo n size slope (k)).map ry).flatten) (news := [(.complex .f32 (fop .mul .f32 size (sineA (fop .add .f32 (fop .quo .f32 (FloatKind.nearest .f32 (k : Int)) (FloatKind.nearest .f32 (n : Int))) 1048576000))) (fop .mul .f32 slope (sineA (fop .quo .f32 (FloatKind.nearest .f32 (k : Int)) (FloatKind.nearest .f32 (n : Int)))))), (.float .f32 (fop .quo .f32 (FloatKind.nearest .f32 (k : Int)) (FloatKind.nearest .f32 (n : Int)))), (.float .f32 0)]) Try.underlying38 Try.type82 rfl rfl rfl rfl rfl ho19 rfl (by decide) rfl (Rds.of (sg_eq _ _ _) (by intro j v hj; simpa using hj)) (by simp [Value.oneCell']) (by unfold maxLen; omega) (by omega)) ?_
        rintro v20 s21 ⟨ho22, gr23⟩
        have hx24 := Grew.ext gr23 hx18 hvz12
        have hv25 := Grew.fresh gr23 hx18 hvz12
        refine L.v (o_assign (v := v20) rfl) ?_
        refine L.nil ?_
        refine W.region ?_
        refine L.v (o_iadd (a := (k : Int)) (b := 1) (c := ((k + 1 : Nat) : Int)) rfl rfl (by rw [IntWalk.i64_in _ (by omega)]; try omega)) ?_
        refine L.v (o_move (v := (.int .i64 (((k + 1 : Nat) : Int)))) rfl) ?_
        refine L.nil ?_
        exact ⟨_, (by omega), k + 1, v20, rfl, by omega, (by rw [fillTo_succ, List.map_append, List.flatten_append]; exact ho22), hx24, hv25, ⟨rfl, rfl, rfl, rfl, rfl, rfl, trivial⟩⟩
      ·
        have a26 : ¬ (((k : Int) : Int) < (n : Int)) := of_decide_eq_false q13
        refine W.exit ?_
        refine W.seq ?_
        refine W.region ?_
        refine L.v (o_move (v := vz12) rfl) ?_
        refine L.v (o_assign (v := vz12) rfl) ?_
        refine L.v (o_assign (v := (.bool true)) rfl) ?_
        refine L.nil ?_
        refine W.ret ?_
        obtain rfl : n = k := by omega
        have hwb : fillB (n : Int) size slope = true := by unfold fillB; cases hfs : finB size <;> cases hft : finB slope <;> by_cases g1 : 1 ≤ (n : Int) ∧ (n : Int) ≤ 256 <;> simp_all <;> omega
        obtain ⟨p', c', hpc, hfs⟩ := Fsl.of_own (rows := (fillTo n size slope n).map ry) (n := n) hoz12 (by rw [List.length_map, fillTo_len]) (ry_all _) hxz12 hvz12
        subst hpc
        exact RetK.two _ (.slice p' n c') (.bool true) rfl rfl rfl rfl rfl (Ext.refl _) ⟨p', c', by rw [fillF_yes hwb, hwb, fillTo_len], by rw [fillF_yes hwb]; exact Fsl.weaken hfs ehx8⟩

theorem lawFill {w0 : World} {σ : Sg} (c : Int) (bc : -9223372036854775808 ≤ c ∧ c ≤ 9223372036854775807) (size slope : Nat) :
    Fn Try.prog w0 5 [(.int .i64 c), (.float .f32 size), (.float .f32 slope)] σ (fun u _ => u = .bool true) := by
  refine Fn.of_W 73 Try.func5 rfl Try.ntmps5 rfl ?_
  refine W.seq ?_
  refine W.region ?_
  refine L.v (o_assign (v := (.bool false)) rfl) ?_
  refine L.nil ?_
  refine W.seq ?_
  refine W.region ?_
  refine L.v (o_move (v := (.int .i64 c)) rfl) ?_
  refine L.v (o_move (v := (.float .f32 size)) rfl) ?_
  refine L.v (o_move (v := (.float .f32 slope)) rfl) ?_
  refine L.cons (op_call [(.int .i64 c), (.float .f32 size), (.float .f32 slope)] Try.call20 rfl (specFill c size slope)) ?_
  rintro _ s3 ⟨p1, c2, rfl, fs4⟩
  have ex5 := Ext.trans (Ext.refl σ) fs4.ext
  have mu6 := Fsl.mut fs4 (((fillF c size slope).length) * 3) (by simp)
  refine L.v (o_move (v := (.tuple #[(.slice p1 ((fillF c size slope).length) c2), (.bool (fillB c size slope))])) rfl) ?_
  refine L.v (o_extract (vs := #[(.slice p1 ((fillF c size slope).length) c2), (.bool (fillB c size slope))]) (v := (.slice p1 ((fillF c size slope).length) c2)) rfl rfl rfl) ?_
  refine L.v (o_extract (vs := #[(.slice p1 ((fillF c size slope).length) c2), (.bool (fillB c size slope))]) (v := (.bool (fillB c size slope))) rfl rfl rfl) ?_
  refine L.v (o_assign (v := (.slice p1 ((fillF c size slope).length) c2)) rfl) ?_
  refine L.v (o_assign (v := (.bool (fillB c size slope))) rfl) ?_
  refine L.nil ?_
  refine W.seq ?_
  refine W.region ?_
  refine L.v (o_move (v := (.int .i64 c)) rfl) ?_
  refine L.v (o_move (v := (.float .f32 size)) rfl) ?_
  refine L.v (o_move (v := (.float .f32 slope)) rfl) ?_
  refine L.cons (op_call [(.int .i64 c), (.float .f32 size), (.float .f32 slope)] Try.call21 rfl (implFill c size slope)) ?_
  rintro _ s9 ⟨p7, c8, rfl, fs10⟩
  have ap11 : Apart ((fillF c size slope).length) ((fillF c size slope).length) p7 p1 := by simpa using Fsl.apart fs10 (Fsl.reads fs4) (ry_ne _)
  have hs12 := Sl.ext (Fsl.reads fs4) fs10.ext
  have mu13 := Mut.ext mu6 fs10.ext
  have ex14 := Ext.trans ex5 fs10.ext
  have mu15 := Fsl.mut fs10 (((fillF c size slope).length) * 3) (by simp)
  refine L.v (o_move (v := (.tuple #[(.slice p7 ((fillF c size slope).length) c8), (.bool (fillB c size slope))])) rfl) ?_
  refine L.v (o_extract (vs := #[(.slice p7 ((fillF c size slope).length) c8), (.bool (fillB c size slope))]) (v := (.slice p7 ((fillF c size slope).length) c8)) rfl rfl rfl) ?_
  refine L.v (o_extract (vs := #[(.slice p7 ((fillF c size slope).length) c8), (.bool (fillB c size slope))]) (v := (.bool (fillB c size slope))) rfl rfl rfl) ?_
  refine L.v (o_assign (v := (.slice p7 ((fillF c size slope).length) c8)) rfl) ?_
  refine L.v (o_assign (v := (.bool (fillB c size slope))) rfl) ?_
  refine L.nil ?_
  refine W.seq ?_
  refine W.seq ?_
  refine W.region ?_
  refine L.v (o_move (v := (.slice p7 ((fillF c size slope).length) c8)) rfl) ?_
  refine L.v (o_move (v := (.slice p1 ((fillF c size slope).length) c2)) rfl) ?_
  refine L.v (v := (.bool true)) (op_call [(.slice p7 ((fillF c size slope).length) c8), (.slice p1 ((fillF c size slope).length) c2)] Try.call22 rfl (eqry p7 p1 c8 c2 (fillF c size slope) (Fsl.reads fs10) hs12 (by first | omega | exact fillF_le _ _ _))) ?_
  refine L.v (o_not (b := true) (c := false) rfl rfl) ?_
  refine L.v (o_move (v := (.bool false)) rfl) ?_
  refine L.gv (j := 4) (d₁ := 33) (b := false) rfl rfl rfl rfl (o_move (v := (.bool (fillB c size slope))) rfl) ?_
  refine L.gv (j := 4) (d₁ := 33) (b := false) rfl rfl rfl rfl (o_move (v := (.bool (fillB c size slope))) rfl) ?_
  refine L.gv (j := 4) (d₁ := 33) (b := false) rfl rfl rfl rfl (o_bneq (a := fillB c size slope) (b := fillB c size slope) (c := false) Try.underlying4 rfl rfl (by simp)) ?_
  refine L.v (o_pickF (b := false) (v := (.bool false)) rfl rfl rfl) ?_
  refine L.nil ?_
  refine W.condF (b := false) rfl rfl ?_
  refine W.skip ?_
  refine W.seq ?_
  refine W.region ?_
  refine L.v (o_assign (v := (.int .i64 1)) rfl) ?_
  refine L.nil ?_
  refine W.seq ?_
  refine W.region ?_
  refine L.v (o_move (v := (.slice p7 ((fillF c size slope).length) c8)) rfl) ?_
  refine L.v (o_move (v := (.int .i64 1)) rfl) ?_
  refine L.cons (op_call [(.slice p7 ((fillF c size slope).length) c8), (.int .i64 1)] Try.call23 rfl (markry p7 ((fillF c size slope).length) c8 1 mu15 (by first | omega | exact fillF_le _ _ _) (by omega))) ?_
  rintro _ s16 ⟨rfl, mk17, sl18⟩
  have hs19 := Sl.mkd hs12 mk17 (by simpa using ap11)
  have mu20 := Mut.mkd mu13 mk17 ap11 (by first | (simp; done) | omega)
  refine L.v (o_assign (v := (.int .i64 (1 + 3 * (((fillF c size slope).length : Nat) : Int)))) rfl) ?_
  refine L.nil ?_
  refine W.seq ?_
  refine W.region ?_
  refine L.v (o_assign (v := (.int .i64 1)) rfl) ?_
  refine L.nil ?_
  refine W.seq ?_
  refine W.region ?_
  refine L.v (o_move (v := (.slice p7 ((fillF c size slope).length) c8)) rfl) ?_
  refine L.v (o_move (v := (.int .i64 1)) rfl) ?_
  refine L.v (v := (.int .i64 (1 + 3 * (((fillF c size slope).length : Nat) : Int)))) (op_call [(.slice p7 ((fillF c size slope).length) c8), (.int .i64 1)] Try.call24 rfl (heldry p7 ((fillF c size slope).length) c8 1 sl18 (by first | omega | exact fillF_le _ _ _) (by omega))) ?_
  refine L.v (o_assign (v := (.int .i64 (1 + 3 * (((fillF c size slope).length : Nat) : Int)))) rfl) ?_
  refine L.nil ?_
  refine W.seq ?_
  refine W.seq ?_
  refine W.region ?_
  refine L.v (o_move (v := (.int .i64 (1 + 3 * (((fillF c size slope).length : Nat) : Int)))) rfl) ?_
  refine L.v (o_ilss (a := 1 + 3 * (((fillF c size slope).length : Nat) : Int)) (b := 0) rfl rfl rfl) ?_
  refine L.nil ?_
  refine W.condF (b := decide ((1 + 3 * (((fillF c size slope).length : Nat) : Int) : Int) < 0)) rfl (decide_eq_false (by omega)) ?_
  refine W.skip ?_
  refine W.seq ?_
  refine W.seq ?_
  refine W.region ?_
  refine L.v (o_move (v := (.int .i64 (1 + 3 * (((fillF c size slope).length : Nat) : Int)))) rfl) ?_
  refine L.v (o_move (v := (.int .i64 (1 + 3 * (((fillF c size slope).length : Nat) : Int)))) rfl) ?_
  refine L.v (o_ineq (a := 1 + 3 * (((fillF c size slope).length : Nat) : Int)) (b := 1 + 3 * (((fillF c size slope).length : Nat) : Int)) (c := false) rfl rfl (by simp)) ?_
  refine L.nil ?_
  refine W.condF (b := false) rfl rfl ?_
  refine W.skip ?_
  refine W.seq ?_
  refine W.region ?_
  refine L.v (o_move (v := (.int .i64 c)) rfl) ?_
  refine L.v (o_move (v := (.float .f32 size)) rfl) ?_
  refine L.v (o_move (v := (.float .f32 slope)) rfl) ?_
  refine L.cons (op_call [(.int .i64 c), (.float .f32 size), (.float .f32 slope)] Try.call21 rfl (implFill c size slope)) ?_
  rintro _ s23 ⟨p21, c22, rfl, fs24⟩
  have ap25 : Apart ((fillF c size slope).length) ((fillF c size slope).length) p21 p1 := by simpa using Fsl.apart fs24 hs19 (ry_ne _)
  have ap26 : Apart ((fillF c size slope).length) ((fillF c size slope).length) p21 p7 := by simpa using Fsl.apart fs24 sl18 (ry_ne _)
  have hs27 := Sl.ext hs19 fs24.ext
  have mu28 := Mut.ext mu20 fs24.ext
  have hs29 := Sl.ext sl18 fs24.ext
  have mu30 := Fsl.mut fs24 (((fillF c size slope).length) * 3) (by simp)
  refine L.v (o_move (v := (.tuple #[(.slice p21 ((fillF c size slope).length) c22), (.bool (fillB c size slope))])) rfl) ?_
  refine L.v (o_extract (vs := #[(.slice p21 ((fillF c size slope).length) c22), (.bool (fillB c size slope))]) (v := (.slice p21 ((fillF c size slope).length) c22)) rfl rfl rfl) ?_
  refine L.v (o_extract (vs := #[(.slice p21 ((fillF c size slope).length) c22), (.bool (fillB c size slope))]) (v := (.bool (fillB c size slope))) rfl rfl rfl) ?_
  refine L.v (o_assign (v := (.slice p21 ((fillF c size slope).length) c22)) rfl) ?_
  refine L.v (o_assign (v := (.bool (fillB c size slope))) rfl) ?_
  refine L.nil ?_
  refine W.seq ?_
  refine W.seq ?_
  refine W.region ?_
  refine L.v (o_move (v := (.slice p21 ((fillF c size slope).length) c22)) rfl) ?_
  refine L.v (o_move (v := (.slice p1 ((fillF c size slope).length) c2)) rfl) ?_
  refine L.v (v := (.bool true)) (op_call [(.slice p21 ((fillF c size slope).length) c22), (.slice p1 ((fillF c size slope).length) c2)] Try.call22 rfl (eqry p21 p1 c22 c2 (fillF c size slope) (Fsl.reads fs24) hs27 (by first | omega | exact fillF_le _ _ _))) ?_
  refine L.v (o_not (b := true) (c := false) rfl rfl) ?_
  refine L.v (o_move (v := (.bool false)) rfl) ?_
  refine L.gv (j := 4) (d₁ := 60) (b := false) rfl rfl rfl rfl (o_move (v := (.bool (fillB c size slope))) rfl) ?_
  refine L.gv (j := 4) (d₁ := 60) (b := false) rfl rfl rfl rfl (o_move (v := (.bool (fillB c size slope))) rfl) ?_
  refine L.gv (j := 4) (d₁ := 60) (b := false) rfl rfl rfl rfl (o_bneq (a := fillB c size slope) (b := fillB c size slope) (c := false) Try.underlying4 rfl rfl (by simp)) ?_
  refine L.v (o_pickF (b := false) (v := (.bool false)) rfl rfl rfl) ?_
  refine L.nil ?_
  refine W.condF (b := false) rfl rfl ?_
  refine W.skip ?_
  refine W.seq ?_
  refine W.region ?_
  refine L.v (o_assign (v := (.int .i64 1)) rfl) ?_
  refine L.nil ?_
  refine W.seq ?_
  refine W.region ?_
  refine L.v (o_move (v := (.slice p7 ((fillF c size slope).length) c8)) rfl) ?_
  refine L.v (o_move (v := (.int .i64 1)) rfl) ?_
  refine L.v (v := (.int .i64 (1 + 3 * (((fillF c size slope).length : Nat) : Int)))) (op_call [(.slice p7 ((fillF c size slope).length) c8), (.int .i64 1)] Try.call24 rfl (heldry p7 ((fillF c size slope).length) c8 1 hs29 (by first | omega | exact fillF_le _ _ _) (by omega))) ?_
  refine L.v (o_assign (v := (.int .i64 (1 + 3 * (((fillF c size slope).length : Nat) : Int)))) rfl) ?_
  refine L.nil ?_
  refine W.seq ?_
  refine W.seq ?_
  refine W.region ?_
  refine L.v (o_move (v := (.int .i64 (1 + 3 * (((fillF c size slope).length : Nat) : Int)))) rfl) ?_
  refine L.v (o_ilss (a := 1 + 3 * (((fillF c size slope).length : Nat) : Int)) (b := 0) rfl rfl rfl) ?_
  refine L.nil ?_
  refine W.condF (b := decide ((1 + 3 * (((fillF c size slope).length : Nat) : Int) : Int) < 0)) rfl (decide_eq_false (by omega)) ?_
  refine W.skip ?_
  refine W.seq ?_
  refine W.seq ?_
  refine W.region ?_
  refine L.v (o_move (v := (.int .i64 (1 + 3 * (((fillF c size slope).length : Nat) : Int)))) rfl) ?_
  refine L.v (o_move (v := (.int .i64 (1 + 3 * (((fillF c size slope).length : Nat) : Int)))) rfl) ?_
  refine L.v (o_ineq (a := 1 + 3 * (((fillF c size slope).length : Nat) : Int)) (b := 1 + 3 * (((fillF c size slope).length : Nat) : Int)) (c := false) rfl rfl (by simp)) ?_
  refine L.nil ?_
  refine W.condF (b := false) rfl rfl ?_
  refine W.skip ?_
  refine W.seq ?_
  refine W.region ?_
  refine L.v (o_assign (v := (.bool true)) rfl) ?_
  refine L.nil ?_
  refine W.ret ?_
  exact RetK.one _ (.bool true) rfl rfl (Ext.refl _) rfl

end Go.Proofs.Ytnonlibekcacgaa.En
