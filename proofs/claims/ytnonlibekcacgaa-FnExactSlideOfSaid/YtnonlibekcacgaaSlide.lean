/- SlideOf in the program and in the reference, and its law. -/
import Derived.Test.YtnonlibekcacgaaMode
import Derived.Test.YtnonlibekcacgaaAngle
import Derived.Test.YtnonlibekcacgaaRows
namespace Go.Proofs.Ytnonlibekcacgaa.En
open Go
set_option linter.unusedVariables false
set_option maxRecDepth 100000
def slD (d : Nat) : Nat := if fcmp .lss .f32 d 3204448256 = true then fop .add .f32 d 1065353216 else if fcmp .gtr .f32 d 1056964608 = true then fop .sub .f32 d 1065353216 else d
theorem slD_1 {d : Nat} (h : fcmp .lss .f32 d 3204448256 = true) : slD d = fop .add .f32 d 1065353216 := if_pos h
theorem slD_2 {d : Nat} (h : fcmp .lss .f32 d 3204448256 = false) (h2 : fcmp .gtr .f32 d 1056964608 = true) : slD d = fop .sub .f32 d 1065353216 := by rw [slD, if_neg (by rw [h]; decide), if_pos h2]
theorem slD_3 {d : Nat} (h : fcmp .lss .f32 d 3204448256 = false) (h2 : fcmp .gtr .f32 d 1056964608 = false) : slD d = d := by rw [slD, if_neg (by rw [h]; decide), if_neg (by rw [h2]; decide)]
def slideB (gx gy m : Int) (xs ys : List Nat) : Bool := modeB gx gy m xs && modeB gx gy m ys
def slideF (gx gy m : Int) (xs ys : List Nat) : Nat := if slideB gx gy m xs ys = true then slD (fop .sub .f32 (angA (modeV gx gy m ys).2 (modeV gx gy m ys).1) (angA (modeV gx gy m xs).2 (modeV gx gy m xs).1)) else 0
theorem slideB_no1 {gx gy m : Int} {xs ys : List Nat} (h : modeB gx gy m xs = false) : slideB gx gy m xs ys = false := by rw [slideB, h]; rfl
theorem slideB_no2 {gx gy m : Int} {xs ys : List Nat} (h : modeB gx gy m ys = false) : slideB gx gy m xs ys = false := by rw [slideB, h, Bool.and_false]
theorem slideF_no1 {gx gy m : Int} {xs ys : List Nat} (h : modeB gx gy m xs = false) : slideF gx gy m xs ys = 0 := if_neg (by rw [slideB_no1 h]; decide)
theorem slideF_no2 {gx gy m : Int} {xs ys : List Nat} (h : modeB gx gy m ys = false) : slideF gx gy m xs ys = 0 := if_neg (by rw [slideB_no2 h]; decide)
theorem slideB_yes {gx gy m : Int} {xs ys : List Nat} (h : modeB gx gy m xs = true) (h2 : modeB gx gy m ys = true) : slideB gx gy m xs ys = true := by rw [slideB, h, h2]; rfl
theorem slideF_yes {gx gy m : Int} {xs ys : List Nat} (h : modeB gx gy m xs = true) (h2 : modeB gx gy m ys = true) : slideF gx gy m xs ys = slD (fop .sub .f32 (angA (modeV gx gy m ys).2 (modeV gx gy m ys).1) (angA (modeV gx gy m xs).2 (modeV gx gy m xs).1)) := if_pos (slideB_yes h h2)
theorem specSlide {w0 : World} {σ : Sg} (gx gy m : Int) (p : Option Addr) (xs : List Nat) (hs : Sl σ 1 p (xs.map fl)) (q : Option Addr) (ys : List Nat) (hq : Sl σ 1 q (ys.map fl)) :
    FnV Try.prog w0 44 [(.agg #[(.int .i64 gx), (.int .i64 gy)]), (.slice p xs.length xs.length), (.slice q ys.length ys.length), (.int .i64 m)] σ (.tuple #[.float .f32 (slideF gx gy m xs ys), .bool (slideB gx gy m xs ys)]) := by
  unfold FnV
  refine Fn.of_W 49 Try.func44 rfl Try.ntmps44 rfl ?_
  refine W.seq ?_
  refine W.region ?_
  refine L.cons (o_box (v := (.agg #[(.int .i64 gx), (.int .i64 gy)])) rfl rfl [(.int .i64 gx), (.int .i64 gy)] rfl) ?_
  rintro _ _ ⟨b1, hf2, hw3, rfl, rfl⟩
  have fz7 := Ext.none (Ext.refl _) hf2
  have hb6 : (sg σ b1 (27, [(.int .i64 gx), (.int .i64 gy)])) b1 = some (27, [(.int .i64 gx), (.int .i64 gy)]) := sg_eq _ _ _
  have hx5 : Ext σ (sg σ b1 (27, [(.int .i64 gx), (.int .i64 gy)])) := (Ext.refl _).sg hf2
  have hs8 := Sl.ext hs hx5
  have hs9 := Sl.ext hq hx5
  have ehx5 := Ext.trans (Ext.refl _) hx5
  generalize hgs4 : sg σ b1 (27, [(.int .i64 gx), (.int .i64 gy)]) = s4 at *
  clear hgs4
  refine L.v (o_assign (v := (.float .f32 0)) rfl) ?_
  refine L.v (o_assign (v := (.bool false)) rfl) ?_
  refine L.nil ?_
  refine W.seq ?_
  refine W.region ?_
  refine L.v (o_loads (b := b1) (off := 0) (vs := [(.int .i64 gx), (.int .i64 gy)]) Try.isAgg27 Try.sizeOf27 rfl rfl (Rds.of hb6 (by intro j v hj; simpa using hj))) ?_
  refine L.v (o_move (v := (.slice p xs.length xs.length)) rfl) ?_
  refine L.v (o_move (v := (.int .i64 m)) rfl) ?_
  refine L.v (v := (.tuple #[(.complex .f32 ((modeV gx gy m xs).1) ((modeV gx gy m xs).2)), (.bool (modeB gx gy m xs))])) (op_call [(.agg #[(.int .i64 gx), (.int .i64 gy)]), (.slice p xs.length xs.length), (.int .i64 m)] Try.call36 rfl (specModeOf gx gy m p xs hs8)) ?_
  refine L.v (o_move (v := (.tuple #[(.complex .f32 ((modeV gx gy m xs).1) ((modeV gx gy m xs).2)), (.bool (modeB gx gy m xs))])) rfl) ?_
  refine L.v (o_extract (vs := #[(.complex .f32 ((modeV gx gy m xs).1) ((modeV gx gy m xs).2)), (.bool (modeB gx gy m xs))]) (v := (.complex .f32 ((modeV gx gy m xs).1) ((modeV gx gy m xs).2))) rfl rfl rfl) ?_
  refine L.v (o_extract (vs := #[(.complex .f32 ((modeV gx gy m xs).1) ((modeV gx gy m xs).2)), (.bool (modeB gx gy m xs))]) (v := (.bool (modeB gx gy m xs))) rfl rfl rfl) ?_
  refine L.v (o_assign (v := (.complex .f32 ((modeV gx gy m xs).1) ((modeV gx gy m xs).2))) rfl) ?_
  refine L.v (o_assign (v := (.bool (modeB gx gy m xs))) rfl) ?_
  refine L.nil ?_
  refine W.seq ?_
  refine W.region ?_
  refine L.v (o_loads (b := b1) (off := 0) (vs := [(.int .i64 gx), (.int .i64 gy)]) Try.isAgg27 Try.sizeOf27 rfl rfl (Rds.of hb6 (by intro j v hj; simpa using hj))) ?_
  refine L.v (o_move (v := (.slice q ys.length ys.length)) rfl) ?_
  refine L.v (o_move (v := (.int .i64 m)) rfl) ?_
  refine L.v (v := (.tuple #[(.complex .f32 ((modeV gx gy m ys).1) ((modeV gx gy m ys).2)), (.bool (modeB gx gy m ys))])) (op_call [(.agg #[(.int .i64 gx), (.int .i64 gy)]), (.slice q ys.length ys.length), (.int .i64 m)] Try.call36 rfl (specModeOf gx gy m q ys hs9)) ?_
  refine L.v (o_move (v := (.tuple #[(.complex .f32 ((modeV gx gy m ys).1) ((modeV gx gy m ys).2)), (.bool (modeB gx gy m ys))])) rfl) ?_
  refine L.v (o_extract (vs := #[(.complex .f32 ((modeV gx gy m ys).1) ((modeV gx gy m ys).2)), (.bool (modeB gx gy m ys))]) (v := (.complex .f32 ((modeV gx gy m ys).1) ((modeV gx gy m ys).2))) rfl rfl rfl) ?_
  refine L.v (o_extract (vs := #[(.complex .f32 ((modeV gx gy m ys).1) ((modeV gx gy m ys).2)), (.bool (modeB gx gy m ys))]) (v := (.bool (modeB gx gy m ys))) rfl rfl rfl) ?_
  refine L.v (o_assign (v := (.complex .f32 ((modeV gx gy m ys).1) ((modeV gx gy m ys).2))) rfl) ?_
  refine L.v (o_assign (v := (.bool (modeB gx gy m ys))) rfl) ?_
  refine L.nil ?_
  refine W.seq ?_
  refine W.seq ?_
  refine W.region ?_
  refine L.v (o_move (v := (.bool (modeB gx gy m xs))) rfl) ?_
  refine L.v (o_not (b := modeB gx gy m xs) rfl rfl) ?_
  refine L.v (o_move (v := (.bool (!(modeB gx gy m xs)))) rfl) ?_
  rcases Bool.eq_false_or_eq_true (!(modeB gx gy m xs)) with q10 | q10
  ·
    refine L.gF (j := 2) (d₁ := 31) (b := !(modeB gx gy m xs)) rfl rfl rfl q10 ?_
    refine L.gF (j := 2) (d₁ := 31) (b := !(modeB gx gy m xs)) rfl rfl rfl q10 ?_
    refine L.v (o_pickT (b := !(modeB gx gy m xs)) (v := (.bool true)) rfl q10 rfl) ?_
    refine L.nil ?_
    refine W.condT (b := true) rfl rfl ?_
    refine W.seq ?_
    refine W.region ?_
    refine L.v (o_assign (v := (.float .f32 0)) rfl) ?_
    refine L.v (o_assign (v := (.bool false)) rfl) ?_
    refine L.nil ?_
    refine W.ret ?_
    exact RetK.two σ (.float .f32 0) (.bool false) rfl rfl rfl rfl rfl ehx5 ⟨by rw [slideF_no1 (bn_t q10), slideB_no1 (bn_t q10)], rfl⟩
  ·
    refine L.gv (j := 2) (d₁ := 31) (b := !(modeB gx gy m xs)) rfl rfl rfl q10 (o_move (v := (.bool (modeB gx gy m ys))) rfl) ?_
    refine L.gv (j := 2) (d₁ := 31) (b := !(modeB gx gy m xs)) rfl rfl rfl q10 (o_not (b := modeB gx gy m ys) rfl rfl) ?_
    refine L.v (o_pickF (b := !(modeB gx gy m xs)) (v := (.bool (!(modeB gx gy m ys)))) rfl q10 rfl) ?_
    refine L.nil ?_
    refine W.cond (b := !(modeB gx gy m ys)) rfl (fun q11 => ?_) (fun q11 => ?_)
    ·
      refine W.seq ?_
      refine W.region ?_
      refine L.v (o_assign (v := (.float .f32 0)) rfl) ?_
      refine L.v (o_assign (v := (.bool false)) rfl) ?_
      refine L.nil ?_
      refine W.ret ?_
      exact RetK.two σ (.float .f32 0) (.bool false) rfl rfl rfl rfl rfl ehx5 ⟨by rw [slideF_no2 (bn_t q11), slideB_no2 (bn_t q11)], rfl⟩
    ·
      refine W.skip ?_
      refine W.seq ?_
      refine W.region ?_
      refine L.v (o_move (v := (.complex .f32 ((modeV gx gy m ys).1) ((modeV gx gy m ys).2))) rfl) ?_
      refine L.v (v := (.float .f32 (angA ((modeV gx gy m ys).2) ((modeV gx gy m ys).1)))) (op_call [(.complex .f32 ((modeV gx gy m ys).1) ((modeV gx gy m ys).2))] Try.call78 rfl (specAngOf ((modeV gx gy m ys).1) ((modeV gx gy m ys).2))) ?_
      refine L.v (o_move (v := (.complex .f32 ((modeV gx gy m xs).1) ((modeV gx gy m xs).2))) rfl) ?_
      refine L.v (v := (.float .f32 (angA ((modeV gx gy m xs).2) ((modeV gx gy m xs).1)))) (op_call [(.complex .f32 ((modeV gx gy m xs).1) ((modeV gx gy m xs).2))] Try.call78 rfl (specAngOf ((modeV gx gy m xs).1) ((modeV gx gy m xs).2))) ?_
      refine L.v (o_farith (k := .f32) (a := angA ((modeV gx gy m ys).2) ((modeV gx gy m ys).1)) (b := angA ((modeV gx gy m xs).2) ((modeV gx gy m xs).1)) rfl rfl rfl) ?_
      refine L.v (o_assign (v := (.float .f32 (fop .sub .f32 (angA ((modeV gx gy m ys).2) ((modeV gx gy m ys).1)) (angA ((modeV gx gy m xs).2) ((modeV gx gy m xs).1))))) rfl) ?_
      refine L.nil ?_
      refine W.seq ?_
      refine W.seq ?_
      refine W.region ?_
      refine L.v (o_move (v := (.float .f32 (fop .sub .f32 (angA ((modeV gx gy m ys).2) ((modeV gx gy m ys).1)) (angA ((modeV gx gy m xs).2) ((modeV gx gy m xs).1))))) rfl) ?_
      refine L.v (o_fcmp (k := .f32) (a := fop .sub .f32 (angA ((modeV gx gy m ys).2) ((modeV gx gy m ys).1)) (angA ((modeV gx gy m xs).2) ((modeV gx gy m xs).1))) (b := 3204448256) rfl rfl rfl rfl) ?_
      refine L.nil ?_
      refine W.cond (b := fcmp .lss .f32 (fop .sub .f32 (angA ((modeV gx gy m ys).2) ((modeV gx gy m ys).1)) (angA ((modeV gx gy m xs).2) ((modeV gx gy m xs).1))) 3204448256) rfl (fun q12 => ?_) (fun q12 => ?_)
      ·
        refine W.seq ?_
        refine W.region ?_
        refine L.v (o_move (v := (.float .f32 (fop .sub .f32 (angA ((modeV gx gy m ys).2) ((modeV gx gy m ys).1)) (angA ((modeV gx gy m xs).2) ((modeV gx gy m xs).1))))) rfl) ?_
        refine L.v (o_farith (k := .f32) (a := fop .sub .f32 (angA ((modeV gx gy m ys).2) ((modeV gx gy m ys).1)) (angA ((modeV gx gy m xs).2) ((modeV gx gy m xs).1))) (b := 1065353216) rfl rfl rfl) ?_
        refine L.v (o_assign (v := (.float .f32 (fop .add .f32 (fop .sub .f32 (angA ((modeV gx gy m ys).2) ((modeV gx gy m ys).1)) (angA ((modeV gx gy m xs).2) ((modeV gx gy m xs).1))) 1065353216))) rfl) ?_
        refine L.v (o_assign (v := (.bool true)) rfl) ?_
        refine L.nil ?_
        refine W.ret ?_
        exact RetK.two σ (.float .f32 (fop .add .f32 (fop .sub .f32 (angA ((modeV gx gy m ys).2) ((modeV gx gy m ys).1)) (angA ((modeV gx gy m xs).2) ((modeV gx gy m xs).1))) 1065353216)) (.bool true) rfl rfl rfl rfl rfl ehx5 ⟨by first | (rw [slideF_yes (bn_f q10) (bn_f q11), slideB_yes (bn_f q10) (bn_f q11), slD_1 (by assumption)]; done) | (rw [slideF_yes (bn_f q10) (bn_f q11), slideB_yes (bn_f q10) (bn_f q11), slD_2 (by assumption) (by assumption)]; done) | (rw [slideF_yes (bn_f q10) (bn_f q11), slideB_yes (bn_f q10) (bn_f q11), slD_3 (by assumption) (by assumption)]; done), rfl⟩
      ·
        refine W.skip ?_
        refine W.seq ?_
        refine W.seq ?_
        refine W.region ?_
        refine L.v (o_move (v := (.float .f32 (fop .sub .f32 (angA ((modeV gx gy m ys).2) ((modeV gx gy m ys).1)) (angA ((modeV gx gy m xs).2) ((modeV gx gy m xs).1))))) rfl) ?_
        refine L.v (o_fcmp (k := .f32) (a := fop .sub .f32 (angA ((modeV gx gy m ys).2) ((modeV gx gy m ys).1)) (angA ((modeV gx gy m xs).2) ((modeV gx gy m xs).1))) (b := 1056964608) rfl rfl rfl rfl) ?_
        refine L.nil ?_
        refine W.cond (b := fcmp .gtr .f32 (fop .sub .f32 (angA ((modeV gx gy m ys).2) ((modeV gx gy m ys).1)) (angA ((modeV gx gy m xs).2) ((modeV gx gy m xs).1))) 1056964608) rfl (fun q13 => ?_) (fun q13 => ?_)
        ·
          refine W.seq ?_
          refine W.region ?_
          refine L.v (o_move (v := (.float .f32 (fop .sub .f32 (angA ((modeV gx gy m ys).2) ((modeV gx gy m ys).1)) (angA ((modeV gx gy m xs).2) ((modeV gx gy m xs).1))))) rfl) ?_
          refine L.v (o_farith (k := .f32) (a := fop .sub .f32 (angA ((modeV gx gy m ys).2) ((modeV gx gy m ys).1)) (angA ((modeV gx gy m xs).2) ((modeV gx gy m xs).1))) (b := 1065353216) rfl rfl rfl) ?_
          refine L.v (o_assign (v := (.float .f32 (fop .sub .f32 (fop .sub .f32 (angA ((modeV gx gy m ys).2) ((modeV gx gy m ys).1)) (angA ((modeV gx gy m xs).2) ((modeV gx gy m xs).1))) 1065353216))) rfl) ?_
          refine L.v (o_assign (v := (.bool true)) rfl) ?_
          refine L.nil ?_
          refine W.ret ?_
          exact RetK.two σ (.float .f32 (fop .sub .f32 (fop .sub .f32 (angA ((modeV gx gy m ys).2) ((modeV gx gy m ys).1)) (angA ((modeV gx gy m xs).2) ((modeV gx gy m xs).1))) 1065353216)) (.bool true) rfl rfl rfl rfl rfl ehx5 ⟨by first | (rw [slideF_yes (bn_f q10) (bn_f q11), slideB_yes (bn_f q10) (bn_f q11), slD_1 (by assumption)]; done) | (rw [slideF_yes (bn_f q10) (bn_f q11), slideB_yes (bn_f q10) (bn_f q11), slD_2 (by assumption) (by assumption)]; done) | (rw [slideF_yes (bn_f q10) (bn_f q11), slideB_yes (bn_f q10) (bn_f q11), slD_3 (by assumption) (by assumption)]; done), rfl⟩
        ·
          refine W.skip ?_
          refine W.seq ?_
          refine W.region ?_
          refine L.v (o_move (v := (.float .f32 (fop .sub .f32 (angA ((modeV gx gy m ys).2) ((modeV gx gy m ys).1)) (angA ((modeV gx gy m xs).2) ((modeV gx gy m xs).1))))) rfl) ?_
          refine L.v (o_assign (v := (.float .f32 (fop .sub .f32 (angA ((modeV gx gy m ys).2) ((modeV gx gy m ys).1)) (angA ((modeV gx gy m xs).2) ((modeV gx gy m xs).1))))) rfl) ?_
          refine L.v (o_assign (v := (.bool true)) rfl) ?_
          refine L.nil ?_
          refine W.ret ?_
          exact RetK.two σ (.float .f32 (fop .sub .f32 (angA ((modeV gx gy m ys).2) ((modeV gx gy m ys).1)) (angA ((modeV gx gy m xs).2) ((modeV gx gy m xs).1)))) (.bool true) rfl rfl rfl rfl rfl ehx5 ⟨by first | (rw [slideF_yes (bn_f q10) (bn_f q11), slideB_yes (bn_f q10) (bn_f q11), slD_1 (by assumption)]; done) | (rw [slideF_yes (bn_f q10) (bn_f q11), slideB_yes (bn_f q10) (bn_f q11), slD_2 (by assumption) (by assumption)]; done) | (rw [slideF_yes (bn_f q10) (bn_f q11), slideB_yes (bn_f q10) (bn_f q11), slD_3 (by assumption) (by assumption)]; done), rfl⟩

theorem implSlide {w0 : World} {σ : Sg} (gx gy m : Int) (p : Option Addr) (xs : List Nat) (hs : Sl σ 1 p (xs.map fl)) (q : Option Addr) (ys : List Nat) (hq : Sl σ 1 q (ys.map fl)) :
    FnV Try.prog w0 45 [(.agg #[(.int .i64 gx), (.int .i64 gy)]), (.slice p xs.length xs.length), (.slice q ys.length ys.length), (.int .i64 m)] σ (.tuple #[.float .f32 (slideF gx gy m xs ys), .bool (slideB gx gy m xs ys)]) := by
  unfold FnV
  refine Fn.of_W 51 Try.func45 rfl Try.ntmps45 rfl ?_
  refine W.seq ?_
  refine W.region ?_
  refine L.cons (o_box (v := (.agg #[(.int .i64 gx), (.int .i64 gy)])) rfl rfl [(.int .i64 gx), (.int .i64 gy)] rfl) ?_
  rintro _ _ ⟨b1, hf2, hw3, rfl, rfl⟩
  have fz7 := Ext.none (Ext.refl _) hf2
  have hb6 : (sg σ b1 (27, [(.int .i64 gx), (.int .i64 gy)])) b1 = some (27, [(.int .i64 gx), (.int .i64 gy)]) := sg_eq _ _ _
  have hx5 : Ext σ (sg σ b1 (27, [(.int .i64 gx), (.int .i64 gy)])) := (Ext.refl _).sg hf2
  have hs8 := Sl.ext hs hx5
  have hs9 := Sl.ext hq hx5
  have ehx5 := Ext.trans (Ext.refl _) hx5
  generalize hgs4 : sg σ b1 (27, [(.int .i64 gx), (.int .i64 gy)]) = s4 at *
  clear hgs4
  refine L.v (o_assign (v := (.float .f32 0)) rfl) ?_
  refine L.v (o_assign (v := (.bool false)) rfl) ?_
  refine L.nil ?_
  refine W.seq ?_
  refine W.region ?_
  refine L.v (o_loads (b := b1) (off := 0) (vs := [(.int .i64 gx), (.int .i64 gy)]) Try.isAgg27 Try.sizeOf27 rfl rfl (Rds.of hb6 (by intro j v hj; simpa using hj))) ?_
  refine L.v (o_move (v := (.slice p xs.length xs.length)) rfl) ?_
  refine L.v (o_move (v := (.int .i64 m)) rfl) ?_
  refine L.v (v := (.tuple #[(.complex .f32 ((modeV gx gy m xs).1) ((modeV gx gy m xs).2)), (.bool (modeB gx gy m xs))])) (op_call [(.agg #[(.int .i64 gx), (.int .i64 gy)]), (.slice p xs.length xs.length), (.int .i64 m)] Try.call37 rfl (implModeOf gx gy m p xs hs8)) ?_
  refine L.v (o_move (v := (.tuple #[(.complex .f32 ((modeV gx gy m xs).1) ((modeV gx gy m xs).2)), (.bool (modeB gx gy m xs))])) rfl) ?_
  refine L.v (o_extract (vs := #[(.complex .f32 ((modeV gx gy m xs).1) ((modeV gx gy m xs).2)), (.bool (modeB gx gy m xs))]) (v := (.complex .f32 ((modeV gx gy m xs).1) ((modeV gx gy m xs).2))) rfl rfl rfl) ?_
  refine L.v (o_extract (vs := #[(.complex .f32 ((modeV gx gy m xs).1) ((modeV gx gy m xs).2)), (.bool (modeB gx gy m xs))]) (v := (.bool (modeB gx gy m xs))) rfl rfl rfl) ?_
  refine L.v (o_assign (v := (.complex .f32 ((modeV gx gy m xs).1) ((modeV gx gy m xs).2))) rfl) ?_
  refine L.v (o_assign (v := (.bool (modeB gx gy m xs))) rfl) ?_
  refine L.nil ?_
  refine W.seq ?_
  refine W.region ?_
  refine L.v (o_loads (b := b1) (off := 0) (vs := [(.int .i64 gx), (.int .i64 gy)]) Try.isAgg27 Try.sizeOf27 rfl rfl (Rds.of hb6 (by intro j v hj; simpa using hj))) ?_
  refine L.v (o_move (v := (.slice q ys.length ys.length)) rfl) ?_
  refine L.v (o_move (v := (.int .i64 m)) rfl) ?_
  refine L.v (v := (.tuple #[(.complex .f32 ((modeV gx gy m ys).1) ((modeV gx gy m ys).2)), (.bool (modeB gx gy m ys))])) (op_call [(.agg #[(.int .i64 gx), (.int .i64 gy)]), (.slice q ys.length ys.length), (.int .i64 m)] Try.call37 rfl (implModeOf gx gy m q ys hs9)) ?_
  refine L.v (o_move (v := (.tuple #[(.complex .f32 ((modeV gx gy m ys).1) ((modeV gx gy m ys).2)), (.bool (modeB gx gy m ys))])) rfl) ?_
  refine L.v (o_extract (vs := #[(.complex .f32 ((modeV gx gy m ys).1) ((modeV gx gy m ys).2)), (.bool (modeB gx gy m ys))]) (v := (.complex .f32 ((modeV gx gy m ys).1) ((modeV gx gy m ys).2))) rfl rfl rfl) ?_
  refine L.v (o_extract (vs := #[(.complex .f32 ((modeV gx gy m ys).1) ((modeV gx gy m ys).2)), (.bool (modeB gx gy m ys))]) (v := (.bool (modeB gx gy m ys))) rfl rfl rfl) ?_
  refine L.v (o_assign (v := (.complex .f32 ((modeV gx gy m ys).1) ((modeV gx gy m ys).2))) rfl) ?_
  refine L.v (o_assign (v := (.bool (modeB gx gy m ys))) rfl) ?_
  refine L.nil ?_
  refine W.seq ?_
  refine W.seq ?_
  refine W.region ?_
  refine L.v (o_move (v := (.bool (modeB gx gy m xs))) rfl) ?_
  refine L.v (o_not (b := modeB gx gy m xs) rfl rfl) ?_
  refine L.v (o_move (v := (.bool (!(modeB gx gy m xs)))) rfl) ?_
  rcases Bool.eq_false_or_eq_true (!(modeB gx gy m xs)) with q10 | q10
  ·
    refine L.gF (j := 2) (d₁ := 31) (b := !(modeB gx gy m xs)) rfl rfl rfl q10 ?_
    refine L.gF (j := 2) (d₁ := 31) (b := !(modeB gx gy m xs)) rfl rfl rfl q10 ?_
    refine L.v (o_pickT (b := !(modeB gx gy m xs)) (v := (.bool true)) rfl q10 rfl) ?_
    refine L.nil ?_
    refine W.condT (b := true) rfl rfl ?_
    refine W.seq ?_
    refine W.region ?_
    refine L.v (o_assign (v := (.float .f32 0)) rfl) ?_
    refine L.v (o_assign (v := (.bool false)) rfl) ?_
    refine L.nil ?_
    refine W.ret ?_
    exact RetK.two σ (.float .f32 0) (.bool false) rfl rfl rfl rfl rfl ehx5 ⟨by rw [slideF_no1 (bn_t q10), slideB_no1 (bn_t q10)], rfl⟩
  ·
    refine L.gv (j := 2) (d₁ := 31) (b := !(modeB gx gy m xs)) rfl rfl rfl q10 (o_move (v := (.bool (modeB gx gy m ys))) rfl) ?_
    refine L.gv (j := 2) (d₁ := 31) (b := !(modeB gx gy m xs)) rfl rfl rfl q10 (o_not (b := modeB gx gy m ys) rfl rfl) ?_
    refine L.v (o_pickF (b := !(modeB gx gy m xs)) (v := (.bool (!(modeB gx gy m ys)))) rfl q10 rfl) ?_
    refine L.nil ?_
    refine W.cond (b := !(modeB gx gy m ys)) rfl (fun q11 => ?_) (fun q11 => ?_)
    ·
      refine W.seq ?_
      refine W.region ?_
      refine L.v (o_assign (v := (.float .f32 0)) rfl) ?_
      refine L.v (o_assign (v := (.bool false)) rfl) ?_
      refine L.nil ?_
      refine W.ret ?_
      exact RetK.two σ (.float .f32 0) (.bool false) rfl rfl rfl rfl rfl ehx5 ⟨by rw [slideF_no2 (bn_t q11), slideB_no2 (bn_t q11)], rfl⟩
    ·
      refine W.skip ?_
      refine W.seq ?_
      refine W.region ?_
      refine L.v (o_move (v := (.complex .f32 ((modeV gx gy m ys).1) ((modeV gx gy m ys).2))) rfl) ?_
      refine L.v (v := (.float .f32 (angA ((modeV gx gy m ys).2) ((modeV gx gy m ys).1)))) (op_call [(.complex .f32 ((modeV gx gy m ys).1) ((modeV gx gy m ys).2))] Try.call79 rfl (implAngOf ((modeV gx gy m ys).1) ((modeV gx gy m ys).2))) ?_
      refine L.v (o_move (v := (.complex .f32 ((modeV gx gy m xs).1) ((modeV gx gy m xs).2))) rfl) ?_
      refine L.v (v := (.float .f32 (angA ((modeV gx gy m xs).2) ((modeV gx gy m xs).1)))) (op_call [(.complex .f32 ((modeV gx gy m xs).1) ((modeV gx gy m xs).2))] Try.call79 rfl (implAngOf ((modeV gx gy m xs).1) ((modeV gx gy m xs).2))) ?_
      refine L.v (o_farith (k := .f32) (a := angA ((modeV gx gy m ys).2) ((modeV gx gy m ys).1)) (b := angA ((modeV gx gy m xs).2) ((modeV gx gy m xs).1)) rfl rfl rfl) ?_
      refine L.v (o_assign (v := (.float .f32 (fop .sub .f32 (angA ((modeV gx gy m ys).2) ((modeV gx gy m ys).1)) (angA ((modeV gx gy m xs).2) ((modeV gx gy m xs).1))))) rfl) ?_
      refine L.nil ?_
      refine W.seq ?_
      refine W.block ?_
      refine W.seq ?_
      refine W.region ?_
      refine L.v (o_move (v := (.float .f32 (fop .sub .f32 (angA ((modeV gx gy m ys).2) ((modeV gx gy m ys).1)) (angA ((modeV gx gy m xs).2) ((modeV gx gy m xs).1))))) rfl) ?_
      refine L.v (o_fcmp (k := .f32) (a := fop .sub .f32 (angA ((modeV gx gy m ys).2) ((modeV gx gy m ys).1)) (angA ((modeV gx gy m xs).2) ((modeV gx gy m xs).1))) (b := 3204448256) rfl rfl rfl rfl) ?_
      refine L.v (o_assign (v := (.bool (fcmp .lss .f32 (fop .sub .f32 (angA ((modeV gx gy m ys).2) ((modeV gx gy m ys).1)) (angA ((modeV gx gy m xs).2) ((modeV gx gy m xs).1))) 3204448256))) rfl) ?_
      refine L.nil ?_
      refine W.cond (b := fcmp .lss .f32 (fop .sub .f32 (angA ((modeV gx gy m ys).2) ((modeV gx gy m ys).1)) (angA ((modeV gx gy m xs).2) ((modeV gx gy m xs).1))) 3204448256) rfl (fun q12 => ?_) (fun q12 => ?_)
      ·
        refine W.region ?_
        refine L.v (o_move (v := (.float .f32 (fop .sub .f32 (angA ((modeV gx gy m ys).2) ((modeV gx gy m ys).1)) (angA ((modeV gx gy m xs).2) ((modeV gx gy m xs).1))))) rfl) ?_
        refine L.v (o_farith (k := .f32) (a := fop .sub .f32 (angA ((modeV gx gy m ys).2) ((modeV gx gy m ys).1)) (angA ((modeV gx gy m xs).2) ((modeV gx gy m xs).1))) (b := 1065353216) rfl rfl rfl) ?_
        refine L.v (o_assign (v := (.float .f32 (fop .add .f32 (fop .sub .f32 (angA ((modeV gx gy m ys).2) ((modeV gx gy m ys).1)) (angA ((modeV gx gy m xs).2) ((modeV gx gy m xs).1))) 1065353216))) rfl) ?_
        refine L.nil ?_
        refine W.seq ?_
        refine W.region ?_
        refine L.v (o_move (v := (.float .f32 (fop .add .f32 (fop .sub .f32 (angA ((modeV gx gy m ys).2) ((modeV gx gy m ys).1)) (angA ((modeV gx gy m xs).2) ((modeV gx gy m xs).1))) 1065353216))) rfl) ?_
        refine L.v (o_assign (v := (.float .f32 (fop .add .f32 (fop .sub .f32 (angA ((modeV gx gy m ys).2) ((modeV gx gy m ys).1)) (angA ((modeV gx gy m xs).2) ((modeV gx gy m xs).1))) 1065353216))) rfl) ?_
        refine L.v (o_assign (v := (.bool true)) rfl) ?_
        refine L.nil ?_
        refine W.ret ?_
        exact RetK.two σ (.float .f32 (fop .add .f32 (fop .sub .f32 (angA ((modeV gx gy m ys).2) ((modeV gx gy m ys).1)) (angA ((modeV gx gy m xs).2) ((modeV gx gy m xs).1))) 1065353216)) (.bool true) rfl rfl rfl rfl rfl ehx5 ⟨by first | (rw [slideF_yes (bn_f q10) (bn_f q11), slideB_yes (bn_f q10) (bn_f q11), slD_1 (by assumption)]; done) | (rw [slideF_yes (bn_f q10) (bn_f q11), slideB_yes (bn_f q10) (bn_f q11), slD_2 (by assumption) (by assumption)]; done) | (rw [slideF_yes (bn_f q10) (bn_f q11), slideB_yes (bn_f q10) (bn_f q11), slD_3 (by assumption) (by assumption)]; done), rfl⟩
      ·
        refine W.seq ?_
        refine W.region ?_
        refine L.v (o_move (v := (.float .f32 (fop .sub .f32 (angA ((modeV gx gy m ys).2) ((modeV gx gy m ys).1)) (angA ((modeV gx gy m xs).2) ((modeV gx gy m xs).1))))) rfl) ?_
        refine L.v (o_fcmp (k := .f32) (a := fop .sub .f32 (angA ((modeV gx gy m ys).2) ((modeV gx gy m ys).1)) (angA ((modeV gx gy m xs).2) ((modeV gx gy m xs).1))) (b := 1056964608) rfl rfl rfl rfl) ?_
        refine L.v (o_assign (v := (.bool (fcmp .gtr .f32 (fop .sub .f32 (angA ((modeV gx gy m ys).2) ((modeV gx gy m ys).1)) (angA ((modeV gx gy m xs).2) ((modeV gx gy m xs).1))) 1056964608))) rfl) ?_
        refine L.nil ?_
        refine W.cond (b := fcmp .gtr .f32 (fop .sub .f32 (angA ((modeV gx gy m ys).2) ((modeV gx gy m ys).1)) (angA ((modeV gx gy m xs).2) ((modeV gx gy m xs).1))) 1056964608) rfl (fun q13 => ?_) (fun q13 => ?_)
        ·
          refine W.region ?_
          refine L.v (o_move (v := (.float .f32 (fop .sub .f32 (angA ((modeV gx gy m ys).2) ((modeV gx gy m ys).1)) (angA ((modeV gx gy m xs).2) ((modeV gx gy m xs).1))))) rfl) ?_
          refine L.v (o_farith (k := .f32) (a := fop .sub .f32 (angA ((modeV gx gy m ys).2) ((modeV gx gy m ys).1)) (angA ((modeV gx gy m xs).2) ((modeV gx gy m xs).1))) (b := 1065353216) rfl rfl rfl) ?_
          refine L.v (o_assign (v := (.float .f32 (fop .sub .f32 (fop .sub .f32 (angA ((modeV gx gy m ys).2) ((modeV gx gy m ys).1)) (angA ((modeV gx gy m xs).2) ((modeV gx gy m xs).1))) 1065353216))) rfl) ?_
          refine L.nil ?_
          refine W.seq ?_
          refine W.region ?_
          refine L.v (o_move (v := (.float .f32 (fop .sub .f32 (fop .sub .f32 (angA ((modeV gx gy m ys).2) ((modeV gx gy m ys).1)) (angA ((modeV gx gy m xs).2) ((modeV gx gy m xs).1))) 1065353216))) rfl) ?_
          refine L.v (o_assign (v := (.float .f32 (fop .sub .f32 (fop .sub .f32 (angA ((modeV gx gy m ys).2) ((modeV gx gy m ys).1)) (angA ((modeV gx gy m xs).2) ((modeV gx gy m xs).1))) 1065353216))) rfl) ?_
          refine L.v (o_assign (v := (.bool true)) rfl) ?_
          refine L.nil ?_
          refine W.ret ?_
          exact RetK.two σ (.float .f32 (fop .sub .f32 (fop .sub .f32 (angA ((modeV gx gy m ys).2) ((modeV gx gy m ys).1)) (angA ((modeV gx gy m xs).2) ((modeV gx gy m xs).1))) 1065353216)) (.bool true) rfl rfl rfl rfl rfl ehx5 ⟨by first | (rw [slideF_yes (bn_f q10) (bn_f q11), slideB_yes (bn_f q10) (bn_f q11), slD_1 (by assumption)]; done) | (rw [slideF_yes (bn_f q10) (bn_f q11), slideB_yes (bn_f q10) (bn_f q11), slD_2 (by assumption) (by assumption)]; done) | (rw [slideF_yes (bn_f q10) (bn_f q11), slideB_yes (bn_f q10) (bn_f q11), slD_3 (by assumption) (by assumption)]; done), rfl⟩
        ·
          refine W.skip ?_
          refine W.seq ?_
          refine W.region ?_
          refine L.v (o_move (v := (.float .f32 (fop .sub .f32 (angA ((modeV gx gy m ys).2) ((modeV gx gy m ys).1)) (angA ((modeV gx gy m xs).2) ((modeV gx gy m xs).1))))) rfl) ?_
          refine L.v (o_assign (v := (.float .f32 (fop .sub .f32 (angA ((modeV gx gy m ys).2) ((modeV gx gy m ys).1)) (angA ((modeV gx gy m xs).2) ((modeV gx gy m xs).1))))) rfl) ?_
          refine L.v (o_assign (v := (.bool true)) rfl) ?_
          refine L.nil ?_
          refine W.ret ?_
          exact RetK.two σ (.float .f32 (fop .sub .f32 (angA ((modeV gx gy m ys).2) ((modeV gx gy m ys).1)) (angA ((modeV gx gy m xs).2) ((modeV gx gy m xs).1)))) (.bool true) rfl rfl rfl rfl rfl ehx5 ⟨by first | (rw [slideF_yes (bn_f q10) (bn_f q11), slideB_yes (bn_f q10) (bn_f q11), slD_1 (by assumption)]; done) | (rw [slideF_yes (bn_f q10) (bn_f q11), slideB_yes (bn_f q10) (bn_f q11), slD_2 (by assumption) (by assumption)]; done) | (rw [slideF_yes (bn_f q10) (bn_f q11), slideB_yes (bn_f q10) (bn_f q11), slD_3 (by assumption) (by assumption)]; done), rfl⟩

theorem lawSlide {w0 : World} {σ : Sg} (gx gy : Int) (p : Option Addr) (c : Nat) (xs : List Nat) (hs : Sl σ 1 p (xs.map fl)) (q : Option Addr) (d : Nat) (ys : List Nat) (hq : Sl σ 1 q (ys.map fl)) (m : Int) (bm : -9223372036854775808 ≤ m ∧ m ≤ 9223372036854775807) :
    Fn Try.prog w0 10 [(.agg #[(.int .i64 gx), (.int .i64 gy)]), (.slice p xs.length c), (.slice q ys.length d), (.int .i64 m)] σ (fun u _ => u = .bool true) := by
  refine Fn.of_W 66 Try.func10 rfl Try.ntmps10 rfl ?_
  refine W.seq ?_
  refine W.region ?_
  refine L.cons (o_box (v := (.agg #[(.int .i64 gx), (.int .i64 gy)])) rfl rfl [(.int .i64 gx), (.int .i64 gy)] rfl) ?_
  rintro _ _ ⟨b1, hf2, hw3, rfl, rfl⟩
  have hb6 : (sg σ b1 (23, [(.int .i64 gx), (.int .i64 gy)])) b1 = some (23, [(.int .i64 gx), (.int .i64 gy)]) := sg_eq _ _ _
  have hx5 : Ext σ (sg σ b1 (23, [(.int .i64 gx), (.int .i64 gy)])) := (Ext.refl _).sg hf2
  have hs7 := Sl.ext hs hx5
  have hs8 := Sl.ext hq hx5
  have ehx5 := Ext.trans (Ext.refl _) hx5
  generalize hgs4 : sg σ b1 (23, [(.int .i64 gx), (.int .i64 gy)]) = s4 at *
  clear hgs4
  refine L.v (o_assign (v := (.bool false)) rfl) ?_
  refine L.nil ?_
  refine W.seq ?_
  refine W.seq ?_
  refine W.region ?_
  refine L.v (o_move (v := (.slice p xs.length c)) rfl) ?_
  refine L.v (o_len (p := p) (n := xs.length) (c := c) Try.underlying32 rfl) ?_
  refine L.v (o_igtr (a := (xs.length : Int)) (b := 1048576) rfl rfl rfl) ?_
  refine L.nil ?_
  refine W.cond (b := decide ((1048576 : Int) < (xs.length : Int))) rfl (fun q9 => ?_) (fun q9 => ?_)
  ·
    have a10 : (1048576 : Int) < (xs.length : Int) := of_decide_eq_true q9
    refine W.seq ?_
    refine W.region ?_
    refine L.v (o_assign (v := (.bool true)) rfl) ?_
    refine L.nil ?_
    refine W.ret ?_
    exact RetK.one _ (.bool true) rfl rfl (Ext.refl _) rfl
  ·
    have a11 : ¬ ((1048576 : Int) < (xs.length : Int)) := of_decide_eq_false q9
    refine W.skip ?_
    refine W.seq ?_
    refine W.seq ?_
    refine W.region ?_
    refine L.v (o_move (v := (.slice q ys.length d)) rfl) ?_
    refine L.v (o_len (p := q) (n := ys.length) (c := d) Try.underlying32 rfl) ?_
    refine L.v (o_igtr (a := (ys.length : Int)) (b := 1048576) rfl rfl rfl) ?_
    refine L.nil ?_
    refine W.cond (b := decide ((1048576 : Int) < (ys.length : Int))) rfl (fun q12 => ?_) (fun q12 => ?_)
    ·
      have a13 : (1048576 : Int) < (ys.length : Int) := of_decide_eq_true q12
      refine W.seq ?_
      refine W.region ?_
      refine L.v (o_assign (v := (.bool true)) rfl) ?_
      refine L.nil ?_
      refine W.ret ?_
      exact RetK.one _ (.bool true) rfl rfl (Ext.refl _) rfl
    ·
      have a14 : ¬ ((1048576 : Int) < (ys.length : Int)) := of_decide_eq_false q12
      refine W.skip ?_
      refine W.seq ?_
      refine W.region ?_
      refine L.v (o_loads (b := b1) (off := 0) (vs := [(.int .i64 gx), (.int .i64 gy)]) Try.isAgg23 Try.sizeOf23 rfl rfl (Rds.of hb6 (by intro j v hj; simpa using hj))) ?_
      refine L.v (v := (.agg #[(.int .i64 gx), (.int .i64 gy)])) (op_call [(.agg #[(.int .i64 gx), (.int .i64 gy)])] Try.call12 rfl (toGrid_c gx gy)) ?_
      refine L.v (o_move (v := (.slice p xs.length c)) rfl) ?_
      refine L.cons (op_call [(.slice p xs.length c)] Try.call31 rfl (toF32S p c xs hs7 (by omega))) ?_
      rintro _ s17 ⟨p15, rfl, fs18⟩
      have ap19 : Apart (xs.length) (xs.length) p15 p := by simpa using Fsl.apart fs18 hs7 (fl_ne _)
      have ap20 : Apart (xs.length) (ys.length) p15 q := by simpa using Fsl.apart fs18 hs8 (fl_ne _)
      have ne21 := Fsl.ne fs18 hb6
      have hs22 := Sl.ext hs7 fs18.ext
      have hs23 := Sl.ext hs8 fs18.ext
      have hb24 := fs18.ext _ _ hb6
      have ex25 := Ext.trans ehx5 fs18.ext
      have mu26 := Fsl.mut fs18 (xs.length) (by simp)
      refine L.v (o_move (v := (.slice q ys.length d)) rfl) ?_
      refine L.cons (op_call [(.slice q ys.length d)] Try.call31 rfl (toF32S q d ys hs23 (by omega))) ?_
      rintro _ s29 ⟨p27, rfl, fs30⟩
      have ap31 : Apart (ys.length) (xs.length) p27 p := by simpa using Fsl.apart fs30 hs22 (fl_ne _)
      have ap32 : Apart (ys.length) (ys.length) p27 q := by simpa using Fsl.apart fs30 hs23 (fl_ne _)
      have ne33 := Fsl.ne fs30 hb24
      have ap34 : Apart (ys.length) (xs.length) p27 p15 := by simpa using Fsl.apart fs30 (Fsl.reads fs18) (fl_ne _)
      have hs35 := Sl.ext hs22 fs30.ext
      have hs36 := Sl.ext hs23 fs30.ext
      have hb37 := fs30.ext _ _ hb24
      have hs38 := Sl.ext (Fsl.reads fs18) fs30.ext
      have mu39 := Mut.ext mu26 fs30.ext
      have ex40 := Ext.trans ex25 fs30.ext
      have mu41 := Fsl.mut fs30 (ys.length) (by simp)
      refine L.v (o_move (v := (.int .i64 m)) rfl) ?_
      refine L.v (v := (.tuple #[(.float .f32 (slideF gx gy m xs ys)), (.bool (slideB gx gy m xs ys))])) (op_call [(.agg #[(.int .i64 gx), (.int .i64 gy)]), (.slice p15 xs.length xs.length), (.slice p27 ys.length ys.length), (.int .i64 m)] Try.call44 rfl (specSlide gx gy m p15 xs hs38 p27 ys (Fsl.reads fs30))) ?_
      refine L.v (o_move (v := (.tuple #[(.float .f32 (slideF gx gy m xs ys)), (.bool (slideB gx gy m xs ys))])) rfl) ?_
      refine L.v (o_extract (vs := #[(.float .f32 (slideF gx gy m xs ys)), (.bool (slideB gx gy m xs ys))]) (v := (.float .f32 (slideF gx gy m xs ys))) rfl rfl rfl) ?_
      refine L.v (o_extract (vs := #[(.float .f32 (slideF gx gy m xs ys)), (.bool (slideB gx gy m xs ys))]) (v := (.bool (slideB gx gy m xs ys))) rfl rfl rfl) ?_
      refine L.v (o_assign (v := (.float .f32 (slideF gx gy m xs ys))) rfl) ?_
      refine L.v (o_assign (v := (.bool (slideB gx gy m xs ys))) rfl) ?_
      refine L.nil ?_
      refine W.seq ?_
      refine W.region ?_
      refine L.v (o_move (v := (.slice p xs.length c)) rfl) ?_
      refine L.cons (op_call [(.slice p xs.length c)] Try.call31 rfl (toF32S p c xs hs35 (by omega))) ?_
      rintro _ s44 ⟨p42, rfl, fs45⟩
      have ap46 : Apart (xs.length) (xs.length) p42 p := by simpa using Fsl.apart fs45 hs35 (fl_ne _)
      have ap47 : Apart (xs.length) (ys.length) p42 q := by simpa using Fsl.apart fs45 hs36 (fl_ne _)
      have ne48 := Fsl.ne fs45 hb37
      have ap49 : Apart (xs.length) (xs.length) p42 p15 := by simpa using Fsl.apart fs45 hs38 (fl_ne _)
      have ap50 : Apart (xs.length) (ys.length) p42 p27 := by simpa using Fsl.apart fs45 (Fsl.reads fs30) (fl_ne _)
      have hs51 := Sl.ext hs35 fs45.ext
      have hs52 := Sl.ext hs36 fs45.ext
      have hb53 := fs45.ext _ _ hb37
      have hs54 := Sl.ext hs38 fs45.ext
      have mu55 := Mut.ext mu39 fs45.ext
      have hs56 := Sl.ext (Fsl.reads fs30) fs45.ext
      have mu57 := Mut.ext mu41 fs45.ext
      have ex58 := Ext.trans ex40 fs45.ext
      have mu59 := Fsl.mut fs45 (xs.length) (by simp)
      refine L.v (o_assign (v := (.slice p42 xs.length xs.length)) rfl) ?_
      refine L.nil ?_
      refine W.seq ?_
      refine W.region ?_
      refine L.v (o_move (v := (.slice q ys.length d)) rfl) ?_
      refine L.cons (op_call [(.slice q ys.length d)] Try.call31 rfl (toF32S q d ys hs52 (by omega))) ?_
      rintro _ s62 ⟨p60, rfl, fs63⟩
      have ap64 : Apart (ys.length) (xs.length) p60 p := by simpa using Fsl.apart fs63 hs51 (fl_ne _)
      have ap65 : Apart (ys.length) (ys.length) p60 q := by simpa using Fsl.apart fs63 hs52 (fl_ne _)
      have ne66 := Fsl.ne fs63 hb53
      have ap67 : Apart (ys.length) (xs.length) p60 p15 := by simpa using Fsl.apart fs63 hs54 (fl_ne _)
      have ap68 : Apart (ys.length) (ys.length) p60 p27 := by simpa using Fsl.apart fs63 hs56 (fl_ne _)
      have ap69 : Apart (ys.length) (xs.length) p60 p42 := by simpa using Fsl.apart fs63 (Fsl.reads fs45) (fl_ne _)
      have hs70 := Sl.ext hs51 fs63.ext
      have hs71 := Sl.ext hs52 fs63.ext
      have hb72 := fs63.ext _ _ hb53
      have hs73 := Sl.ext hs54 fs63.ext
      have mu74 := Mut.ext mu55 fs63.ext
      have hs75 := Sl.ext hs56 fs63.ext
      have mu76 := Mut.ext mu57 fs63.ext
      have hs77 := Sl.ext (Fsl.reads fs45) fs63.ext
      have mu78 := Mut.ext mu59 fs63.ext
      have ex79 := Ext.trans ex58 fs63.ext
      have mu80 := Fsl.mut fs63 (ys.length) (by simp)
      refine L.v (o_assign (v := (.slice p60 ys.length ys.length)) rfl) ?_
      refine L.nil ?_
      refine W.seq ?_
      refine W.region ?_
      refine L.v (o_loads (b := b1) (off := 0) (vs := [(.int .i64 gx), (.int .i64 gy)]) Try.isAgg23 Try.sizeOf23 rfl rfl (Rds.of hb72 (by intro j v hj; simpa using hj))) ?_
      refine L.v (v := (.agg #[(.int .i64 gx), (.int .i64 gy)])) (op_call [(.agg #[(.int .i64 gx), (.int .i64 gy)])] Try.call12 rfl (toGrid_c gx gy)) ?_
      refine L.v (o_move (v := (.slice p42 xs.length xs.length)) rfl) ?_
      refine L.v (o_move (v := (.slice p60 ys.length ys.length)) rfl) ?_
      refine L.v (o_move (v := (.int .i64 m)) rfl) ?_
      refine L.v (v := (.tuple #[(.float .f32 (slideF gx gy m xs ys)), (.bool (slideB gx gy m xs ys))])) (op_call [(.agg #[(.int .i64 gx), (.int .i64 gy)]), (.slice p42 xs.length xs.length), (.slice p60 ys.length ys.length), (.int .i64 m)] Try.call45 rfl (implSlide gx gy m p42 xs hs77 p60 ys (Fsl.reads fs63))) ?_
      refine L.v (o_move (v := (.tuple #[(.float .f32 (slideF gx gy m xs ys)), (.bool (slideB gx gy m xs ys))])) rfl) ?_
      refine L.v (o_extract (vs := #[(.float .f32 (slideF gx gy m xs ys)), (.bool (slideB gx gy m xs ys))]) (v := (.float .f32 (slideF gx gy m xs ys))) rfl rfl rfl) ?_
      refine L.v (o_extract (vs := #[(.float .f32 (slideF gx gy m xs ys)), (.bool (slideB gx gy m xs ys))]) (v := (.bool (slideB gx gy m xs ys))) rfl rfl rfl) ?_
      refine L.v (o_assign (v := (.float .f32 (slideF gx gy m xs ys))) rfl) ?_
      refine L.v (o_assign (v := (.bool (slideB gx gy m xs ys))) rfl) ?_
      refine L.nil ?_
      refine W.seq ?_
      refine W.seq ?_
      refine W.region ?_
      refine L.v (o_move (v := (.float .f32 (slideF gx gy m xs ys))) rfl) ?_
      refine L.v (o_cvFF (s := .f32) (d := .f64) (a := slideF gx gy m xs ys) (by rw [Try.underlying24]; rfl) Try.underlying30 rfl (okw (slideF gx gy m xs ys))) ?_
      refine L.v (o_move (v := (.float .f32 (slideF gx gy m xs ys))) rfl) ?_
      refine L.v (o_cvFF (s := .f32) (d := .f64) (a := slideF gx gy m xs ys) (by rw [Try.underlying24]; rfl) Try.underlying30 rfl (okw (slideF gx gy m xs ys))) ?_
      refine L.v (v := (.bool true)) (op_call [(.float .f64 (cvt .f32 .f64 (slideF gx gy m xs ys))), (.float .f64 (cvt .f32 .f64 (slideF gx gy m xs ys)))] Try.call14 rfl (sameFloat_c (cvt .f32 .f64 (slideF gx gy m xs ys)))) ?_
      refine L.v (o_not (b := true) (c := false) rfl rfl) ?_
      refine L.v (o_move (v := (.bool false)) rfl) ?_
      refine L.gv (j := 6) (d₁ := 51) (b := false) rfl rfl rfl rfl (o_move (v := (.bool (slideB gx gy m xs ys))) rfl) ?_
      refine L.gv (j := 6) (d₁ := 51) (b := false) rfl rfl rfl rfl (o_move (v := (.bool (slideB gx gy m xs ys))) rfl) ?_
      refine L.gv (j := 6) (d₁ := 51) (b := false) rfl rfl rfl rfl (o_bneq (a := slideB gx gy m xs ys) (b := slideB gx gy m xs ys) (c := false) Try.underlying4 rfl rfl (by simp)) ?_
      refine L.v (o_pickF (b := false) (v := (.bool false)) rfl rfl rfl) ?_
      refine L.nil ?_
      refine W.condF (b := false) rfl rfl ?_
      refine W.skip ?_
      refine W.seq ?_
      refine W.seq ?_
      refine W.region ?_
      refine L.v (o_move (v := (.slice p42 xs.length xs.length)) rfl) ?_
      refine L.v (o_move (v := (.slice p xs.length c)) rfl) ?_
      refine L.cons (op_call [(.slice p xs.length c)] Try.call31 rfl (toF32S p c xs hs70 (by omega))) ?_
      rintro _ s83 ⟨p81, rfl, fs84⟩
      have ap85 : Apart (xs.length) (xs.length) p81 p := by simpa using Fsl.apart fs84 hs70 (fl_ne _)
      have ap86 : Apart (xs.length) (ys.length) p81 q := by simpa using Fsl.apart fs84 hs71 (fl_ne _)
      have ne87 := Fsl.ne fs84 hb72
      have ap88 : Apart (xs.length) (xs.length) p81 p15 := by simpa using Fsl.apart fs84 hs73 (fl_ne _)
      have ap89 : Apart (xs.length) (ys.length) p81 p27 := by simpa using Fsl.apart fs84 hs75 (fl_ne _)
      have ap90 : Apart (xs.length) (xs.length) p81 p42 := by simpa using Fsl.apart fs84 hs77 (fl_ne _)
      have ap91 : Apart (xs.length) (ys.length) p81 p60 := by simpa using Fsl.apart fs84 (Fsl.reads fs63) (fl_ne _)
      have hs92 := Sl.ext hs70 fs84.ext
      have hs93 := Sl.ext hs71 fs84.ext
      have hb94 := fs84.ext _ _ hb72
      have hs95 := Sl.ext hs73 fs84.ext
      have mu96 := Mut.ext mu74 fs84.ext
      have hs97 := Sl.ext hs75 fs84.ext
      have mu98 := Mut.ext mu76 fs84.ext
      have hs99 := Sl.ext hs77 fs84.ext
      have mu100 := Mut.ext mu78 fs84.ext
      have hs101 := Sl.ext (Fsl.reads fs63) fs84.ext
      have mu102 := Mut.ext mu80 fs84.ext
      have ex103 := Ext.trans ex79 fs84.ext
      have mu104 := Fsl.mut fs84 (xs.length) (by simp)
      refine L.v (v := (.bool true)) (op_call [(.slice p42 xs.length xs.length), (.slice p81 xs.length xs.length)] Try.call17 rfl (eqF32S p42 p81 xs.length xs.length xs hs99 (Fsl.reads fs84) (by omega))) ?_
      refine L.v (o_not (b := true) (c := false) rfl rfl) ?_
      refine L.nil ?_
      refine W.condF (b := false) rfl rfl ?_
      refine W.skip ?_
      refine W.seq ?_
      refine W.seq ?_
      refine W.region ?_
      refine L.v (o_move (v := (.slice p60 ys.length ys.length)) rfl) ?_
      refine L.v (o_move (v := (.slice q ys.length d)) rfl) ?_
      refine L.cons (op_call [(.slice q ys.length d)] Try.call31 rfl (toF32S q d ys hs93 (by omega))) ?_
      rintro _ s107 ⟨p105, rfl, fs108⟩
      have ap109 : Apart (ys.length) (xs.length) p105 p := by simpa using Fsl.apart fs108 hs92 (fl_ne _)
      have ap110 : Apart (ys.length) (ys.length) p105 q := by simpa using Fsl.apart fs108 hs93 (fl_ne _)
      have ne111 := Fsl.ne fs108 hb94
      have ap112 : Apart (ys.length) (xs.length) p105 p15 := by simpa using Fsl.apart fs108 hs95 (fl_ne _)
      have ap113 : Apart (ys.length) (ys.length) p105 p27 := by simpa using Fsl.apart fs108 hs97 (fl_ne _)
      have ap114 : Apart (ys.length) (xs.length) p105 p42 := by simpa using Fsl.apart fs108 hs99 (fl_ne _)
      have ap115 : Apart (ys.length) (ys.length) p105 p60 := by simpa using Fsl.apart fs108 hs101 (fl_ne _)
      have ap116 : Apart (ys.length) (xs.length) p105 p81 := by simpa using Fsl.apart fs108 (Fsl.reads fs84) (fl_ne _)
      have hs117 := Sl.ext hs92 fs108.ext
      have hs118 := Sl.ext hs93 fs108.ext
      have hb119 := fs108.ext _ _ hb94
      have hs120 := Sl.ext hs95 fs108.ext
      have mu121 := Mut.ext mu96 fs108.ext
      have hs122 := Sl.ext hs97 fs108.ext
      have mu123 := Mut.ext mu98 fs108.ext
      have hs124 := Sl.ext hs99 fs108.ext
      have mu125 := Mut.ext mu100 fs108.ext
      have hs126 := Sl.ext hs101 fs108.ext
      have mu127 := Mut.ext mu102 fs108.ext
      have hs128 := Sl.ext (Fsl.reads fs84) fs108.ext
      have mu129 := Mut.ext mu104 fs108.ext
      have ex130 := Ext.trans ex103 fs108.ext
      have mu131 := Fsl.mut fs108 (ys.length) (by simp)
      refine L.v (v := (.bool true)) (op_call [(.slice p60 ys.length ys.length), (.slice p105 ys.length ys.length)] Try.call17 rfl (eqF32S p60 p105 ys.length ys.length ys hs126 (Fsl.reads fs108) (by omega))) ?_
      refine L.v (o_not (b := true) (c := false) rfl rfl) ?_
      refine L.nil ?_
      refine W.condF (b := false) rfl rfl ?_
      refine W.skip ?_
      refine W.seq ?_
      refine W.region ?_
      refine L.v (o_assign (v := (.bool true)) rfl) ?_
      refine L.nil ?_
      refine W.ret ?_
      exact RetK.one _ (.bool true) rfl rfl (Ext.refl _) rfl

end Go.Proofs.Ytnonlibekcacgaa.En
