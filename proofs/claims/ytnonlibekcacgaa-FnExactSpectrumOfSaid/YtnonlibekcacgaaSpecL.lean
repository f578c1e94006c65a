/- SpectrumOf's law. -/
import Derived.Test.YtnonlibekcacgaaSpec
import Derived.Test.YtnonlibekcacgaaRows
namespace Go.Proofs.Ytnonlibekcacgaa.En
open Go
set_option linter.unusedVariables false
set_option maxRecDepth 100000
theorem lawSpec {w0 : World} {σ : Sg} (p : Option Addr) (c : Nat) (xs : List Nat) (hs : Sl σ 1 p (xs.map fl)) :
    Fn Try.prog w0 7 [(.slice p xs.length c)] σ (fun u _ => u = .bool true) := by
  refine Fn.of_W 93 Try.func7 rfl Try.ntmps7 rfl ?_
  refine W.seq ?_
  refine W.region ?_
  refine L.v (o_assign (v := (.bool false)) rfl) ?_
  refine L.nil ?_
  refine W.seq ?_
  refine W.seq ?_
  refine W.region ?_
  refine L.v (o_move (v := (.slice p xs.length c)) rfl) ?_
  refine L.v (o_len (p := p) (n := xs.length) (c := c) Try.underlying32 rfl) ?_
  refine L.v (o_igtr (a := (xs.length : Int)) (b := 1048576) rfl rfl rfl) ?_
  refine L.nil ?_
  refine W.cond (b := decide ((1048576 : Int) < (xs.length : Int))) rfl (fun q1 => ?_) (fun q1 => ?_)
  ·
    have a2 : (1048576 : Int) < (xs.length : Int) := of_decide_eq_true q1
    refine W.seq ?_
    refine W.region ?_
    refine L.v (o_assign (v := (.bool true)) rfl) ?_
    refine L.nil ?_
    refine W.ret ?_
    exact RetK.one _ (.bool true) rfl rfl (Ext.refl _) rfl
  ·
    have a3 : ¬ ((1048576 : Int) < (xs.length : Int)) := of_decide_eq_false q1
    refine W.skip ?_
    refine W.seq ?_
    refine W.region ?_
    refine L.v (o_move (v := (.slice p xs.length c)) rfl) ?_
    refine L.cons (op_call [(.slice p xs.length c)] Try.call31 rfl (toF32S p c xs hs (by omega))) ?_
    rintro _ s6 ⟨p4, rfl, fs7⟩
    have ap8 : Apart (xs.length) (xs.length) p4 p := by simpa using Fsl.apart fs7 hs (fl_ne _)
    have hs9 := Sl.ext hs fs7.ext
    have ex10 := Ext.trans (Ext.refl σ) fs7.ext
    have mu11 := Fsl.mut fs7 (xs.length) (by simp)
    refine L.cons (op_call [(.slice p4 xs.length xs.length)] Try.call30 rfl (specSpec p4 xs.length xs (Fsl.reads fs7))) ?_
    rintro _ s14 ⟨p12, c13, rfl, fs15⟩
    have ap16 : Apart ((specF xs).length) (xs.length) p12 p := by simpa using Fsl.apart fs15 hs9 (fl_ne _)
    have ap17 : Apart ((specF xs).length) (xs.length) p12 p4 := by simpa using Fsl.apart fs15 (Fsl.reads fs7) (fl_ne _)
    have hs18 := Sl.ext hs9 fs15.ext
    have hs19 := Sl.ext (Fsl.reads fs7) fs15.ext
    have mu20 := Mut.ext mu11 fs15.ext
    have ex21 := Ext.trans ex10 fs15.ext
    have mu22 := Fsl.mut fs15 ((specF xs).length) (by simp)
    refine L.v (o_move (v := (.tuple #[(.slice p12 ((specF xs).length) c13), (.bool (specB xs))])) rfl) ?_
    refine L.v (o_extract (vs := #[(.slice p12 ((specF xs).length) c13), (.bool (specB xs))]) (v := (.slice p12 ((specF xs).length) c13)) rfl rfl rfl) ?_
    refine L.v (o_extract (vs := #[(.slice p12 ((specF xs).length) c13), (.bool (specB xs))]) (v := (.bool (specB xs))) rfl rfl rfl) ?_
    refine L.v (o_assign (v := (.slice p12 ((specF xs).length) c13)) rfl) ?_
    refine L.v (o_assign (v := (.bool (specB xs))) rfl) ?_
    refine L.nil ?_
    refine W.seq ?_
    refine W.region ?_
    refine L.v (o_move (v := (.slice p xs.length c)) rfl) ?_
    refine L.cons (op_call [(.slice p xs.length c)] Try.call31 rfl (toF32S p c xs hs18 (by omega))) ?_
    rintro _ s25 ⟨p23, rfl, fs26⟩
    have ap27 : Apart (xs.length) (xs.length) p23 p := by simpa using Fsl.apart fs26 hs18 (fl_ne _)
    have ap28 : Apart (xs.length) (xs.length) p23 p4 := by simpa using Fsl.apart fs26 hs19 (fl_ne _)
    have ap29 : Apart (xs.length) ((specF xs).length) p23 p12 := by simpa using Fsl.apart fs26 (Fsl.reads fs15) (cx_ne _)
    have hs30 := Sl.ext hs18 fs26.ext
    have hs31 := Sl.ext hs19 fs26.ext
    have mu32 := Mut.ext mu20 fs26.ext
    have hs33 := Sl.ext (Fsl.reads fs15) fs26.ext
    have mu34 := Mut.ext mu22 fs26.ext
    have ex35 := Ext.trans ex21 fs26.ext
    have mu36 := Fsl.mut fs26 (xs.length) (by simp)
    refine L.v (o_assign (v := (.slice p23 xs.length xs.length)) rfl) ?_
    refine L.nil ?_
    refine W.seq ?_
    refine W.region ?_
    refine L.v (o_move (v := (.slice p23 xs.length xs.length)) rfl) ?_
    refine L.cons (op_call [(.slice p23 xs.length xs.length)] Try.call32 rfl (implSpec p23 xs.length xs (Fsl.reads fs26))) ?_
    rintro _ s39 ⟨p37, c38, rfl, fs40⟩
    have ap41 : Apart ((specF xs).length) (xs.length) p37 p := by simpa using Fsl.apart fs40 hs30 (fl_ne _)
    have ap42 : Apart ((specF xs).length) (xs.length) p37 p4 := by simpa using Fsl.apart fs40 hs31 (fl_ne _)
    have ap43 : Apart ((specF xs).length) ((specF xs).length) p37 p12 := by simpa using Fsl.apart fs40 hs33 (cx_ne _)
    have ap44 : Apart ((specF xs).length) (xs.length) p37 p23 := by simpa using Fsl.apart fs40 (Fsl.reads fs26) (fl_ne _)
    have hs45 := Sl.ext hs30 fs40.ext
    have hs46 := Sl.ext hs31 fs40.ext
    have mu47 := Mut.ext mu32 fs40.ext
    have hs48 := Sl.ext hs33 fs40.ext
    have mu49 := Mut.ext mu34 fs40.ext
    have hs50 := Sl.ext (Fsl.reads fs26) fs40.ext
    have mu51 := Mut.ext mu36 fs40.ext
    have ex52 := Ext.trans ex35 fs40.ext
    have mu53 := Fsl.mut fs40 ((specF xs).length) (by simp)
    refine L.v (o_move (v := (.tuple #[(.slice p37 ((specF xs).length) c38), (.bool (specB xs))])) rfl) ?_
    refine L.v (o_extract (vs := #[(.slice p37 ((specF xs).length) c38), (.bool (specB xs))]) (v := (.slice p37 ((specF xs).length) c38)) rfl rfl rfl) ?_
    refine L.v (o_extract (vs := #[(.slice p37 ((specF xs).length) c38), (.bool (specB xs))]) (v := (.bool (specB xs))) rfl rfl rfl) ?_
    refine L.v (o_assign (v := (.slice p37 ((specF xs).length) c38)) rfl) ?_
    refine L.v (o_assign (v := (.bool (specB xs))) rfl) ?_
    refine L.nil ?_
    refine W.seq ?_
    refine W.seq ?_
    refine W.region ?_
    refine L.v (o_move (v := (.slice p37 ((specF xs).length) c38)) rfl) ?_
    refine L.v (o_move (v := (.slice p12 ((specF xs).length) c13)) rfl) ?_
    refine L.v (v := (.bool true)) (op_call [(.slice p37 ((specF xs).length) c38), (.slice p12 ((specF xs).length) c13)] Try.call33 rfl (eqcx p37 p12 c38 c13 (specF xs) (Fsl.reads fs40) hs48 (by first | omega | exact specF_le _))) ?_
    refine L.v (o_not (b := true) (c := false) rfl rfl) ?_
    refine L.v (o_move (v := (.bool false)) rfl) ?_
    refine L.gv (j := 4) (d₁ := 33) (b := false) rfl rfl rfl rfl (o_move (v := (.bool (specB xs))) rfl) ?_
    refine L.gv (j := 4) (d₁ := 33) (b := false) rfl rfl rfl rfl (o_move (v := (.bool (specB xs))) rfl) ?_
    refine L.gv (j := 4) (d₁ := 33) (b := false) rfl rfl rfl rfl (o_bneq (a := specB xs) (b := specB xs) (c := false) Try.underlying4 rfl rfl (by simp)) ?_
    refine L.v (o_pickF (b := false) (v := (.bool false)) rfl rfl rfl) ?_
    refine L.nil ?_
    refine W.condF (b := false) rfl rfl ?_
    refine W.skip ?_
    refine W.seq ?_
    refine W.seq ?_
    refine W.region ?_
    refine L.v (o_move (v := (.slice p23 xs.length xs.length)) rfl) ?_
    refine L.v (o_move (v := (.slice p xs.length c)) rfl) ?_
    refine L.cons (op_call [(.slice p xs.length c)] Try.call31 rfl (toF32S p c xs hs45 (by omega))) ?_
    rintro _ s56 ⟨p54, rfl, fs57⟩
    have ap58 : Apart (xs.length) (xs.length) p54 p := by simpa using Fsl.apart fs57 hs45 (fl_ne _)
    have ap59 : Apart (xs.length) (xs.length) p54 p4 := by simpa using Fsl.apart fs57 hs46 (fl_ne _)
    have ap60 : Apart (xs.length) ((specF xs).length) p54 p12 := by simpa using Fsl.apart fs57 hs48 (cx_ne _)
    have ap61 : Apart (xs.length) (xs.length) p54 p23 := by simpa using Fsl.apart fs57 hs50 (fl_ne _)
    have ap62 : Apart (xs.length) ((specF xs).length) p54 p37 := by simpa using Fsl.apart fs57 (Fsl.reads fs40) (cx_ne _)
    have hs63 := Sl.ext hs45 fs57.ext
    have hs64 := Sl.ext hs46 fs57.ext
    have mu65 := Mut.ext mu47 fs57.ext
    have hs66 := Sl.ext hs48 fs57.ext
    have mu67 := Mut.ext mu49 fs57.ext
    have hs68 := Sl.ext hs50 fs57.ext
    have mu69 := Mut.ext mu51 fs57.ext
    have hs70 := Sl.ext (Fsl.reads fs40) fs57.ext
    have mu71 := Mut.ext mu53 fs57.ext
    have ex72 := Ext.trans ex52 fs57.ext
    have mu73 := Fsl.mut fs57 (xs.length) (by simp)
    refine L.v (v := (.bool true)) (op_call [(.slice p23 xs.length xs.length), (.slice p54 xs.length xs.length)] Try.call17 rfl (eqF32S p23 p54 xs.length xs.length xs hs68 (Fsl.reads fs57) (by first | omega | exact specF_le _))) ?_
    refine L.v (o_not (b := true) (c := false) rfl rfl) ?_
    refine L.nil ?_
    refine W.condF (b := false) rfl rfl ?_
    refine W.skip ?_
    refine W.seq ?_
    refine W.region ?_
    refine L.v (o_assign (v := (.int .i64 1)) rfl) ?_
    refine L.nil ?_
    refine W.seq ?_
    refine W.region ?_
    refine L.v (o_move (v := (.slice p23 xs.length xs.length)) rfl) ?_
    refine L.v (o_move (v := (.int .i64 1)) rfl) ?_
    refine L.cons (op_call [(.slice p23 xs.length xs.length), (.int .i64 1)] Try.call18 rfl (markF p23 xs.length xs.length 1 mu69 (by first | omega | exact specF_le _) (by omega))) ?_
    rintro _ s74 ⟨rfl, mk75, sl76⟩
    have hs77 := Sl.mkd hs63 mk75 (by simpa using ap27)
    have hs78 := Sl.mkd hs64 mk75 (by simpa using ap28)
    have mu79 := Mut.mkd mu65 mk75 ap28 (by simp)
    have hs80 := Sl.mkd hs66 mk75 (by simpa using ap29)
    have mu81 := Mut.mkd mu67 mk75 ap29 (by simp)
    have hs82 := Sl.mkd hs70 mk75 (by simpa using (Apart.symm ap44))
    have mu83 := Mut.mkd mu71 mk75 (Apart.symm ap44) (by simp)
    have hs84 := Sl.mkd (Fsl.reads fs57) mk75 (by simpa using (Apart.symm ap61))
    have mu85 := Mut.mkd mu73 mk75 (Apart.symm ap61) (by simp)
    refine L.v (o_assign (v := (.int .i64 (1 + (xs.length : Int)))) rfl) ?_
    refine L.nil ?_
    refine W.seq ?_
    refine W.seq ?_
    refine W.region ?_
    refine L.v (o_move (v := (.int .i64 (1 + (xs.length : Int)))) rfl) ?_
    refine L.v (o_ilss (a := 1 + (xs.length : Int)) (b := 0) rfl rfl rfl) ?_
    refine L.v (o_move (v := (.bool (decide ((1 + (xs.length : Int) : Int) < 0)))) rfl) ?_
    refine L.gv (j := 2) (d₁ := 48) (b := decide ((1 + (xs.length : Int) : Int) < 0)) rfl rfl rfl (decide_eq_false (by omega)) (o_move (v := (.slice p37 ((specF xs).length) c38)) rfl) ?_
    refine L.gv (j := 2) (d₁ := 48) (b := decide ((1 + (xs.length : Int) : Int) < 0)) rfl rfl rfl (decide_eq_false (by omega)) (o_move (v := (.slice p12 ((specF xs).length) c13)) rfl) ?_
    refine L.gv (j := 2) (d₁ := 48) (b := decide ((1 + (xs.length : Int) : Int) < 0)) rfl rfl rfl (decide_eq_false (by omega)) (v := (.bool true)) (op_call [(.slice p37 ((specF xs).length) c38), (.slice p12 ((specF xs).length) c13)] Try.call33 rfl (eqcx p37 p12 c38 c13 (specF xs) hs82 hs80 (by first | omega | exact specF_le _))) ?_
    refine L.gv (j := 2) (d₁ := 48) (b := decide ((1 + (xs.length : Int) : Int) < 0)) rfl rfl rfl (decide_eq_false (by omega)) (o_not (b := true) (c := false) rfl rfl) ?_
    refine L.v (o_pickF (b := decide ((1 + (xs.length : Int) : Int) < 0)) (v := (.bool false)) rfl (decide_eq_false (by omega)) rfl) ?_
    refine L.v (o_move (v := (.bool false)) rfl) ?_
    refine L.gv (j := 8) (d₁ := 54) (b := false) rfl rfl rfl rfl (o_move (v := (.bool (specB xs))) rfl) ?_
    refine L.gv (j := 8) (d₁ := 54) (b := false) rfl rfl rfl rfl (o_move (v := (.bool (specB xs))) rfl) ?_
    refine L.gv (j := 8) (d₁ := 54) (b := false) rfl rfl rfl rfl (o_bneq (a := specB xs) (b := specB xs) (c := false) Try.underlying4 rfl rfl (by simp)) ?_
    refine L.v (o_pickF (b := false) (v := (.bool false)) rfl rfl rfl) ?_
    refine L.nil ?_
    refine W.condF (b := false) rfl rfl ?_
    refine W.skip ?_
    refine W.seq ?_
    refine W.region ?_
    refine L.v (o_assign (v := (.int .i64 1)) rfl) ?_
    refine L.nil ?_
    refine W.seq ?_
    refine W.region ?_
    refine L.v (o_move (v := (.slice p37 ((specF xs).length) c38)) rfl) ?_
    refine L.v (o_move (v := (.int .i64 1)) rfl) ?_
    refine L.cons (op_call [(.slice p37 ((specF xs).length) c38), (.int .i64 1)] Try.call34 rfl (markcx p37 ((specF xs).length) c38 1 (by rw [Nat.mul_one]; exact mu83) (by first | omega | exact specF_le _) (by omega))) ?_
    rintro _ s86 ⟨rfl, mk87, sl88⟩
    have hs89 := Sl.mkd hs77 mk87 (by simpa using ap41)
    have hs90 := Sl.mkd hs78 mk87 (by simpa using ap42)
    have mu91 := Mut.mkd mu79 mk87 ap42 (by simp)
    have hs92 := Sl.mkd hs80 mk87 (by simpa using ap43)
    have mu93 := Mut.mkd mu81 mk87 ap43 (by simp)
    have hs94 := Sl.mkd sl76 mk87 (by simpa using ap44)
    have hs95 := Sl.mkd hs84 mk87 (by simpa using (Apart.symm ap62))
    have mu96 := Mut.mkd mu85 mk87 (Apart.symm ap62) (by simp)
    refine L.v (o_assign (v := (.int .i64 (1 + 1 * (((specF xs).length : Nat) : Int)))) rfl) ?_
    refine L.nil ?_
    refine W.seq ?_
    refine W.region ?_
    refine L.v (o_assign (v := (.int .i64 1)) rfl) ?_
    refine L.nil ?_
    refine W.seq ?_
    refine W.region ?_
    refine L.v (o_move (v := (.slice p37 ((specF xs).length) c38)) rfl) ?_
    refine L.v (o_move (v := (.int .i64 1)) rfl) ?_
    refine L.v (v := (.int .i64 (1 + 1 * (((specF xs).length : Nat) : Int)))) (op_call [(.slice p37 ((specF xs).length) c38), (.int .i64 1)] Try.call35 rfl (heldcx p37 ((specF xs).length) c38 1 sl88 (by first | omega | exact specF_le _) (by omega))) ?_
    refine L.v (o_assign (v := (.int .i64 (1 + 1 * (((specF xs).length : Nat) : Int)))) rfl) ?_
    refine L.nil ?_
    refine W.seq ?_
    refine W.seq ?_
    refine W.region ?_
    refine L.v (o_move (v := (.int .i64 (1 + 1 * (((specF xs).length : Nat) : Int)))) rfl) ?_
    refine L.v (o_ilss (a := 1 + 1 * (((specF xs).length : Nat) : Int)) (b := 0) rfl rfl rfl) ?_
    refine L.nil ?_
    refine W.condF (b := decide ((1 + 1 * (((specF xs).length : Nat) : Int) : Int) < 0)) rfl (decide_eq_false (by omega)) ?_
    refine W.skip ?_
    refine W.seq ?_
    refine W.seq ?_
    refine W.region ?_
    refine L.v (o_move (v := (.int .i64 (1 + 1 * (((specF xs).length : Nat) : Int)))) rfl) ?_
    refine L.v (o_move (v := (.int .i64 (1 + 1 * (((specF xs).length : Nat) : Int)))) rfl) ?_
    refine L.v (o_ineq (a := 1 + 1 * (((specF xs).length : Nat) : Int)) (b := 1 + 1 * (((specF xs).length : Nat) : Int)) (c := false) rfl rfl (by simp)) ?_
    refine L.nil ?_
    refine W.condF (b := false) rfl rfl ?_
    refine W.skip ?_
    refine W.seq ?_
    refine W.region ?_
    refine L.v (o_move (v := (.slice p xs.length c)) rfl) ?_
    refine L.cons (op_call [(.slice p xs.length c)] Try.call31 rfl (toF32S p c xs hs89 (by omega))) ?_
    rintro _ s99 ⟨p97, rfl, fs100⟩
    have ap101 : Apart (xs.length) (xs.length) p97 p := by simpa using Fsl.apart fs100 hs89 (fl_ne _)
    have ap102 : Apart (xs.length) (xs.length) p97 p4 := by simpa using Fsl.apart fs100 hs90 (fl_ne _)
    have ap103 : Apart (xs.length) ((specF xs).length) p97 p12 := by simpa using Fsl.apart fs100 hs92 (cx_ne _)
    have ap104 : Apart (xs.length) (xs.length) p97 p23 := by simpa using Fsl.apart fs100 hs94 (marks32_ne _ _)
    have ap105 : Apart (xs.length) ((specF xs).length) p97 p37 := by simpa using Fsl.apart fs100 sl88 (cx_ne _)
    have ap106 : Apart (xs.length) (xs.length) p97 p54 := by simpa using Fsl.apart fs100 hs95 (fl_ne _)
    have hs107 := Sl.ext hs89 fs100.ext
    have hs108 := Sl.ext hs90 fs100.ext
    have mu109 := Mut.ext mu91 fs100.ext
    have hs110 := Sl.ext hs92 fs100.ext
    have mu111 := Mut.ext mu93 fs100.ext
    have hs112 := Sl.ext hs94 fs100.ext
    have hs113 := Sl.ext sl88 fs100.ext
    have hs114 := Sl.ext hs95 fs100.ext
    have mu115 := Mut.ext mu96 fs100.ext
    have mu116 := Fsl.mut fs100 (xs.length) (by simp)
    refine L.cons (op_call [(.slice p97 xs.length xs.length)] Try.call32 rfl (implSpec p97 xs.length xs (Fsl.reads fs100))) ?_
    rintro _ s119 ⟨p117, c118, rfl, fs120⟩
    have ap121 : Apart ((specF xs).length) (xs.length) p117 p := by simpa using Fsl.apart fs120 hs107 (fl_ne _)
    have ap122 : Apart ((specF xs).length) (xs.length) p117 p4 := by simpa using Fsl.apart fs120 hs108 (fl_ne _)
    have ap123 : Apart ((specF xs).length) ((specF xs).length) p117 p12 := by simpa using Fsl.apart fs120 hs110 (cx_ne _)
    have ap124 : Apart ((specF xs).length) (xs.length) p117 p23 := by simpa using Fsl.apart fs120 hs112 (marks32_ne _ _)
    have ap125 : Apart ((specF xs).length) ((specF xs).length) p117 p37 := by simpa using Fsl.apart fs120 hs113 (cx_ne _)
    have ap126 : Apart ((specF xs).length) (xs.length) p117 p54 := by simpa using Fsl.apart fs120 hs114 (fl_ne _)
    have ap127 : Apart ((specF xs).length) (xs.length) p117 p97 := by simpa using Fsl.apart fs120 (Fsl.reads fs100) (fl_ne _)
    have hs128 := Sl.ext hs107 fs120.ext
    have hs129 := Sl.ext hs108 fs120.ext
    have mu130 := Mut.ext mu109 fs120.ext
    have hs131 := Sl.ext hs110 fs120.ext
    have mu132 := Mut.ext mu111 fs120.ext
    have hs133 := Sl.ext hs112 fs120.ext
    have hs134 := Sl.ext hs113 fs120.ext
    have hs135 := Sl.ext hs114 fs120.ext
    have mu136 := Mut.ext mu115 fs120.ext
    have hs137 := Sl.ext (Fsl.reads fs100) fs120.ext
    have mu138 := Mut.ext mu116 fs120.ext
    have mu139 := Fsl.mut fs120 ((specF xs).length) (by simp)
    refine L.v (o_move (v := (.tuple #[(.slice p117 ((specF xs).length) c118), (.bool (specB xs))])) rfl) ?_
    refine L.v (o_extract (vs := #[(.slice p117 ((specF xs).length) c118), (.bool (specB xs))]) (v := (.slice p117 ((specF xs).length) c118)) rfl rfl rfl) ?_
    refine L.v (o_extract (vs := #[(.slice p117 ((specF xs).length) c118), (.bool (specB xs))]) (v := (.bool (specB xs))) rfl rfl rfl) ?_
    refine L.v (o_assign (v := (.slice p117 ((specF xs).length) c118)) rfl) ?_
    refine L.v (o_assign (v := (.bool (specB xs))) rfl) ?_
    refine L.nil ?_
    refine W.seq ?_
    refine W.seq ?_
    refine W.region ?_
    refine L.v (o_move (v := (.slice p117 ((specF xs).length) c118)) rfl) ?_
    refine L.v (o_move (v := (.slice p12 ((specF xs).length) c13)) rfl) ?_
    refine L.v (v := (.bool true)) (op_call [(.slice p117 ((specF xs).length) c118), (.slice p12 ((specF xs).length) c13)] Try.call33 rfl (eqcx p117 p12 c118 c13 (specF xs) (Fsl.reads fs120) hs131 (by first | omega | exact specF_le _))) ?_
    refine L.v (o_not (b := true) (c := false) rfl rfl) ?_
    refine L.v (o_move (v := (.bool false)) rfl) ?_
    refine L.gv (j := 4) (d₁ := 80) (b := false) rfl rfl rfl rfl (o_move (v := (.bool (specB xs))) rfl) ?_
    refine L.gv (j := 4) (d₁ := 80) (b := false) rfl rfl rfl rfl (o_move (v := (.bool (specB xs))) rfl) ?_
    refine L.gv (j := 4) (d₁ := 80) (b := false) rfl rfl rfl rfl (o_bneq (a := specB xs) (b := specB xs) (c := false) Try.underlying4 rfl rfl (by simp)) ?_
    refine L.v (o_pickF (b := false) (v := (.bool false)) rfl rfl rfl) ?_
    refine L.nil ?_
    refine W.condF (b := false) rfl rfl ?_
    refine W.skip ?_
    refine W.seq ?_
    refine W.region ?_
    refine L.v (o_assign (v := (.int .i64 1)) rfl) ?_
    refine L.nil ?_
    refine W.seq ?_
    refine W.region ?_
    refine L.v (o_move (v := (.slice p37 ((specF xs).length) c38)) rfl) ?_
    refine L.v (o_move (v := (.int .i64 1)) rfl) ?_
    refine L.v (v := (.int .i64 (1 + 1 * (((specF xs).length : Nat) : Int)))) (op_call [(.slice p37 ((specF xs).length) c38), (.int .i64 1)] Try.call35 rfl (heldcx p37 ((specF xs).length) c38 1 hs134 (by first | omega | exact specF_le _) (by omega))) ?_
    refine L.v (o_assign (v := (.int .i64 (1 + 1 * (((specF xs).length : Nat) : Int)))) rfl) ?_
    refine L.nil ?_
    refine W.seq ?_
    refine W.seq ?_
    refine W.region ?_
    refine L.v (o_move (v := (.int .i64 (1 + 1 * (((specF xs).length : Nat) : Int)))) rfl) ?_
    refine L.v (o_ilss (a := 1 + 1 * (((specF xs).length : Nat) : Int)) (b := 0) rfl rfl rfl) ?_
    refine L.nil ?_
    refine W.condF (b := decide ((1 + 1 * (((specF xs).length : Nat) : Int) : Int) < 0)) rfl (decide_eq_false (by omega)) ?_
    refine W.skip ?_
    refine W.seq ?_
    refine W.seq ?_
    refine W.region ?_
    refine L.v (o_move (v := (.int .i64 (1 + 1 * (((specF xs).length : Nat) : Int)))) rfl) ?_
    refine L.v (o_move (v := (.int .i64 (1 + 1 * (((specF xs).length : Nat) : Int)))) rfl) ?_
    refine L.v (o_ineq (a := 1 + 1 * (((specF xs).length : Nat) : Int)) (b := 1 + 1 * (((specF xs).length : Nat) : Int)) (c := false) rfl rfl (by simp)) ?_
    refine L.nil ?_
    refine W.condF (b := false) rfl rfl ?_
    refine W.skip ?_
    refine W.seq ?_
    refine W.region ?_
    refine L.v (o_assign (v := (.bool true)) rfl) ?_
    refine L.nil ?_
    refine W.ret ?_
    exact RetK.one _ (.bool true) rfl rfl (Ext.refl _) rfl

end Go.Proofs.Ytnonlibekcacgaa.En
