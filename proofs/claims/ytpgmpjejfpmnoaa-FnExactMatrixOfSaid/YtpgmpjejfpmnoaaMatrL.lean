/- MatrixOf's law. -/
import Derived.Test.YtpgmpjejfpmnoaaMatr
import Derived.Test.YtpgmpjejfpmnoaaRows
namespace Go.Proofs.Ytpgmpjejfpmnoaa.En
open Go
set_option linter.unusedVariables false
theorem lawMatrix {w0 : World} {σ : Sg} (p : Option Addr) (c : Nat) (xs : List (Int × Nat × Nat)) (hs : Sl σ 3 p (xs.map el)) (hm : xs.length ≤ maxLen) :
    Fn Try.prog w0 9 [(.slice p xs.length c)] σ (fun u _ => u = .bool true) := by
  refine Fn.of_W 96 Try.func9 rfl Try.ntmps9 rfl ?_
  refine W.seq ?_
  refine W.region ?_
  refine L.v (o_assign (v := (.bool false)) rfl) ?_
  refine L.nil ?_
  refine W.seq ?_
  refine W.region ?_
  refine L.v (o_assign (v := (.int .i64 1048576)) rfl) ?_
  refine L.nil ?_
  refine W.seq ?_
  refine W.region ?_
  refine L.v (o_move (v := (.slice p xs.length c)) rfl) ?_
  refine L.v (o_move (v := (.int .i64 1048576)) rfl) ?_
  refine L.v (v := (.int .i64 (szF 1048576 xs.length))) (op_call [(.slice p xs.length c), (.int .i64 1048576)] Try.call24 rfl (szElem_c p xs.length c 1048576 hm (by decide))) ?_
  refine L.v (o_assign (v := (.int .i64 (szF 1048576 xs.length))) rfl) ?_
  refine L.nil ?_
  refine W.seq ?_
  refine W.seq ?_
  refine W.region ?_
  refine L.v (o_move (v := (.int .i64 (szF 1048576 xs.length))) rfl) ?_
  refine L.v (o_ilss (a := szF 1048576 xs.length) (b := 0) rfl rfl rfl) ?_
  refine L.nil ?_
  refine W.cond (b := decide ((szF 1048576 xs.length : Int) < 0)) rfl (fun q1 => ?_) (fun q1 => ?_)
  ·
    have a2 : (szF 1048576 xs.length : Int) < 0 := of_decide_eq_true q1
    refine W.seq ?_
    refine W.region ?_
    refine L.v (o_assign (v := (.bool true)) rfl) ?_
    refine L.nil ?_
    refine W.ret ?_
    exact RetK.one _ (.bool true) rfl rfl (Ext.refl _) rfl
  ·
    have a3 : ¬ ((szF 1048576 xs.length : Int) < 0) := of_decide_eq_false q1
    refine W.skip ?_
    refine W.seq ?_
    have hlen : xs.length ≤ 1048576 := szF_ok (by assumption)
    refine W.region ?_
    refine L.v (o_move (v := (.slice p xs.length c)) rfl) ?_
    refine L.cons (op_call [(.slice p xs.length c)] Try.call26 rfl (toElemS p c xs hs (by omega))) ?_
    rintro _ s6 ⟨p4, rfl, fs7⟩
    have ap8 : Apart (xs.length) (xs.length) p4 p := by simpa using Fsl.apart fs7 hs (el_ne _)
    have hs9 := Sl.ext hs fs7.ext
    have ex10 := Ext.trans (Ext.refl σ) fs7.ext
    have mu11 := Fsl.mut fs7 (xs.length * 3) (by simp)
    refine L.cons (op_call [(.slice p4 xs.length xs.length)] Try.call35 rfl (specMatOf p4 xs.length xs (Fsl.reads fs7) (by omega))) ?_
    rintro _ s14 ⟨p12, c13, rfl, fs15⟩
    have ap16 : Apart ((matF xs).length) (xs.length) p12 p := by simpa using Fsl.apart fs15 hs9 (el_ne _)
    have ap17 : Apart ((matF xs).length) (xs.length) p12 p4 := by simpa using Fsl.apart fs15 (Fsl.reads fs7) (el_ne _)
    have hs18 := Sl.ext hs9 fs15.ext
    have hs19 := Sl.ext (Fsl.reads fs7) fs15.ext
    have mu20 := Mut.ext mu11 fs15.ext
    have ex21 := Ext.trans ex10 fs15.ext
    have mu22 := Fsl.mut fs15 ((matF xs).length) (by simp)
    refine L.v (o_move (v := (.tuple #[(.slice p12 ((matF xs).length) c13), (.bool (lineOk xs))])) rfl) ?_
    refine L.v (o_extract (vs := #[(.slice p12 ((matF xs).length) c13), (.bool (lineOk xs))]) (v := (.slice p12 ((matF xs).length) c13)) rfl rfl rfl) ?_
    refine L.v (o_extract (vs := #[(.slice p12 ((matF xs).length) c13), (.bool (lineOk xs))]) (v := (.bool (lineOk xs))) rfl rfl rfl) ?_
    refine L.v (o_assign (v := (.slice p12 ((matF xs).length) c13)) rfl) ?_
    refine L.v (o_assign (v := (.bool (lineOk xs))) rfl) ?_
    refine L.nil ?_
    refine W.seq ?_
    refine W.region ?_
    refine L.v (o_move (v := (.slice p xs.length c)) rfl) ?_
    refine L.cons (op_call [(.slice p xs.length c)] Try.call26 rfl (toElemS p c xs hs18 (by omega))) ?_
    rintro _ s25 ⟨p23, rfl, fs26⟩
    have ap27 : Apart (xs.length) (xs.length) p23 p := by simpa using Fsl.apart fs26 hs18 (el_ne _)
    have ap28 : Apart (xs.length) (xs.length) p23 p4 := by simpa using Fsl.apart fs26 hs19 (el_ne _)
    have ap29 : Apart (xs.length) ((matF xs).length) p23 p12 := by simpa using Fsl.apart fs26 (Fsl.reads fs15) (fl_ne _)
    have hs30 := Sl.ext hs18 fs26.ext
    have hs31 := Sl.ext hs19 fs26.ext
    have mu32 := Mut.ext mu20 fs26.ext
    have hs33 := Sl.ext (Fsl.reads fs15) fs26.ext
    have mu34 := Mut.ext mu22 fs26.ext
    have ex35 := Ext.trans ex21 fs26.ext
    have mu36 := Fsl.mut fs26 (xs.length * 3) (by simp)
    refine L.v (o_assign (v := (.slice p23 xs.length xs.length)) rfl) ?_
    refine L.nil ?_
    refine W.seq ?_
    refine W.region ?_
    refine L.v (o_move (v := (.slice p23 xs.length xs.length)) rfl) ?_
    refine L.cons (op_call [(.slice p23 xs.length xs.length)] Try.call36 rfl (implMatOf p23 xs.length xs (Fsl.reads fs26) (by omega))) ?_
    rintro _ s39 ⟨p37, c38, rfl, fs40⟩
    have ap41 : Apart ((matF xs).length) (xs.length) p37 p := by simpa using Fsl.apart fs40 hs30 (el_ne _)
    have ap42 : Apart ((matF xs).length) (xs.length) p37 p4 := by simpa using Fsl.apart fs40 hs31 (el_ne _)
    have ap43 : Apart ((matF xs).length) ((matF xs).length) p37 p12 := by simpa using Fsl.apart fs40 hs33 (fl_ne _)
    have ap44 : Apart ((matF xs).length) (xs.length) p37 p23 := by simpa using Fsl.apart fs40 (Fsl.reads fs26) (el_ne _)
    have hs45 := Sl.ext hs30 fs40.ext
    have hs46 := Sl.ext hs31 fs40.ext
    have mu47 := Mut.ext mu32 fs40.ext
    have hs48 := Sl.ext hs33 fs40.ext
    have mu49 := Mut.ext mu34 fs40.ext
    have hs50 := Sl.ext (Fsl.reads fs26) fs40.ext
    have mu51 := Mut.ext mu36 fs40.ext
    have ex52 := Ext.trans ex35 fs40.ext
    have mu53 := Fsl.mut fs40 ((matF xs).length) (by simp)
    refine L.v (o_move (v := (.tuple #[(.slice p37 ((matF xs).length) c38), (.bool (lineOk xs))])) rfl) ?_
    refine L.v (o_extract (vs := #[(.slice p37 ((matF xs).length) c38), (.bool (lineOk xs))]) (v := (.slice p37 ((matF xs).length) c38)) rfl rfl rfl) ?_
    refine L.v (o_extract (vs := #[(.slice p37 ((matF xs).length) c38), (.bool (lineOk xs))]) (v := (.bool (lineOk xs))) rfl rfl rfl) ?_
    refine L.v (o_assign (v := (.slice p37 ((matF xs).length) c38)) rfl) ?_
    refine L.v (o_assign (v := (.bool (lineOk xs))) rfl) ?_
    refine L.nil ?_
    refine W.seq ?_
    refine W.seq ?_
    refine W.region ?_
    refine L.v (o_move (v := (.slice p37 ((matF xs).length) c38)) rfl) ?_
    refine L.v (o_move (v := (.slice p12 ((matF xs).length) c13)) rfl) ?_
    refine L.v (v := (.bool true)) (op_call [(.slice p37 ((matF xs).length) c38), (.slice p12 ((matF xs).length) c13)] Try.call14 rfl (eqF32S p37 p12 c38 c13 (matF xs) (Fsl.reads fs40) hs48 (by first | omega | exact matF_le _))) ?_
    refine L.v (o_not (b := true) (c := false) rfl rfl) ?_
    refine L.v (o_move (v := (.bool false)) rfl) ?_
    refine L.gv (j := 4) (d₁ := 36) (b := false) rfl rfl rfl rfl (o_move (v := (.bool (lineOk xs))) rfl) ?_
    refine L.gv (j := 4) (d₁ := 36) (b := false) rfl rfl rfl rfl (o_move (v := (.bool (lineOk xs))) rfl) ?_
    refine L.gv (j := 4) (d₁ := 36) (b := false) rfl rfl rfl rfl (o_bneq (a := lineOk xs) (b := lineOk xs) (c := false) Try.underlying4 rfl rfl (by simp)) ?_
    refine L.v (o_pickF (b := false) (v := (.bool false)) rfl rfl rfl) ?_
    refine L.nil ?_
    refine W.condF (b := false) rfl rfl ?_
    refine W.skip ?_
    refine W.seq ?_
    refine W.seq ?_
    refine W.region ?_
    refine L.v (o_move (v := (.slice p23 xs.length xs.length)) rfl) ?_
    refine L.v (o_move (v := (.slice p xs.length c)) rfl) ?_
    refine L.cons (op_call [(.slice p xs.length c)] Try.call26 rfl (toElemS p c xs hs45 (by omega))) ?_
    rintro _ s56 ⟨p54, rfl, fs57⟩
    have ap58 : Apart (xs.length) (xs.length) p54 p := by simpa using Fsl.apart fs57 hs45 (el_ne _)
    have ap59 : Apart (xs.length) (xs.length) p54 p4 := by simpa using Fsl.apart fs57 hs46 (el_ne _)
    have ap60 : Apart (xs.length) ((matF xs).length) p54 p12 := by simpa using Fsl.apart fs57 hs48 (fl_ne _)
    have ap61 : Apart (xs.length) (xs.length) p54 p23 := by simpa using Fsl.apart fs57 hs50 (el_ne _)
    have ap62 : Apart (xs.length) ((matF xs).length) p54 p37 := by simpa using Fsl.apart fs57 (Fsl.reads fs40) (fl_ne _)
    have hs63 := Sl.ext hs45 fs57.ext
    have hs64 := Sl.ext hs46 fs57.ext
    have mu65 := Mut.ext mu47 fs57.ext
    have hs66 := Sl.ext hs48 fs57.ext
    have mu67 := Mut.ext mu49 fs57.ext
    have hs68 := Sl.ext hs50 fs57.ext
    have mu69 := Mut.ext mu51 fs57.ext
    have hs70 := Sl.ext (Fsl.reads fs40) fs57.ext
    have mu71 := Mut.ext mu53 fs57.ext
    have ex72 := Ext.trans ex52 fs57.ext
    have mu73 := Fsl.mut fs57 (xs.length * 3) (by simp)
    refine L.v (v := (.bool true)) (op_call [(.slice p23 xs.length xs.length), (.slice p54 xs.length xs.length)] Try.call28 rfl (eqElemS p23 p54 xs.length xs.length xs hs68 (Fsl.reads fs57) (by first | omega | exact matF_le _))) ?_
    refine L.v (o_not (b := true) (c := false) rfl rfl) ?_
    refine L.nil ?_
    refine W.condF (b := false) rfl rfl ?_
    refine W.skip ?_
    refine W.seq ?_
    refine W.region ?_
    refine L.v (o_assign (v := (.int .i64 1)) rfl) ?_
    refine L.nil ?_
    refine W.seq ?_
    refine W.region ?_
    refine L.v (o_move (v := (.slice p23 xs.length xs.length)) rfl) ?_
    refine L.v (o_move (v := (.int .i64 1)) rfl) ?_
    refine L.cons (op_call [(.slice p23 xs.length xs.length), (.int .i64 1)] Try.call33 rfl (markES p23 xs.length xs.length 1 mu69 (by first | omega | exact matF_le _) (by omega))) ?_
    rintro _ s74 ⟨rfl, mk75, sl76⟩
    have hs77 := Sl.mkd hs63 mk75 (by simpa using ap27)
    have hs78 := Sl.mkd hs64 mk75 (by simpa using ap28)
    have mu79 := Mut.mkd mu65 mk75 ap28 (by first | (simp; done) | omega)
    have hs80 := Sl.mkd hs66 mk75 (by simpa using ap29)
    have mu81 := Mut.mkd mu67 mk75 ap29 (by first | (simp; done) | omega)
    have hs82 := Sl.mkd hs70 mk75 (by simpa using (Apart.symm ap44))
    have mu83 := Mut.mkd mu71 mk75 (Apart.symm ap44) (by first | (simp; done) | omega)
    have hs84 := Sl.mkd (Fsl.reads fs57) mk75 (by simpa using (Apart.symm ap61))
    have mu85 := Mut.mkd mu73 mk75 (Apart.symm ap61) (by first | (simp; done) | omega)
    refine L.v (o_assign (v := (.int .i64 (1 + 3 * (xs.length : Int)))) rfl) ?_
    refine L.nil ?_
    refine W.seq ?_
    refine W.seq ?_
    refine W.region ?_
    refine L.v (o_move (v := (.int .i64 (1 + 3 * (xs.length : Int)))) rfl) ?_
    refine L.v (o_ilss (a := 1 + 3 * (xs.length : Int)) (b := 0) rfl rfl rfl) ?_
    refine L.v (o_move (v := (.bool (decide ((1 + 3 * (xs.length : Int) : Int) < 0)))) rfl) ?_
    refine L.gv (j := 2) (d₁ := 51) (b := decide ((1 + 3 * (xs.length : Int) : Int) < 0)) rfl rfl rfl (decide_eq_false (by omega)) (o_move (v := (.slice p37 ((matF xs).length) c38)) rfl) ?_
    refine L.gv (j := 2) (d₁ := 51) (b := decide ((1 + 3 * (xs.length : Int) : Int) < 0)) rfl rfl rfl (decide_eq_false (by omega)) (o_move (v := (.slice p12 ((matF xs).length) c13)) rfl) ?_
    refine L.gv (j := 2) (d₁ := 51) (b := decide ((1 + 3 * (xs.length : Int) : Int) < 0)) rfl rfl rfl (decide_eq_false (by omega)) (v := (.bool true)) (op_call [(.slice p37 ((matF xs).length) c38), (.slice p12 ((matF xs).length) c13)] Try.call14 rfl (eqF32S p37 p12 c38 c13 (matF xs) hs82 hs80 (by first | omega | exact matF_le _))) ?_
    refine L.gv (j := 2) (d₁ := 51) (b := decide ((1 + 3 * (xs.length : Int) : Int) < 0)) rfl rfl rfl (decide_eq_false (by omega)) (o_not (b := true) (c := false) rfl rfl) ?_
    refine L.v (o_pickF (b := decide ((1 + 3 * (xs.length : Int) : Int) < 0)) (v := (.bool false)) rfl (decide_eq_false (by omega)) rfl) ?_
    refine L.v (o_move (v := (.bool false)) rfl) ?_
    refine L.gv (j := 8) (d₁ := 57) (b := false) rfl rfl rfl rfl (o_move (v := (.bool (lineOk xs))) rfl) ?_
    refine L.gv (j := 8) (d₁ := 57) (b := false) rfl rfl rfl rfl (o_move (v := (.bool (lineOk xs))) rfl) ?_
    refine L.gv (j := 8) (d₁ := 57) (b := false) rfl rfl rfl rfl (o_bneq (a := lineOk xs) (b := lineOk xs) (c := false) Try.underlying4 rfl rfl (by simp)) ?_
    refine L.v (o_pickF (b := false) (v := (.bool false)) rfl rfl rfl) ?_
    refine L.nil ?_
    refine W.condF (b := false) rfl rfl ?_
    refine W.skip ?_
    refine W.seq ?_
    refine W.region ?_
    refine L.v (o_assign (v := (.int .i64 1)) rfl) ?_
    refine L.nil ?_
    refine W.seq ?_
    refine W.region ?_
    refine L.v (o_move (v := (.slice p37 ((matF xs).length) c38)) rfl) ?_
    refine L.v (o_move (v := (.int .i64 1)) rfl) ?_
    refine L.cons (op_call [(.slice p37 ((matF xs).length) c38), (.int .i64 1)] Try.call15 rfl (markF p37 ((matF xs).length) c38 1 mu83 (by first | omega | exact matF_le _) (by omega))) ?_
    rintro _ s86 ⟨rfl, mk87, sl88⟩
    have hs89 := Sl.mkd hs77 mk87 (by simpa using ap41)
    have hs90 := Sl.mkd hs78 mk87 (by simpa using ap42)
    have mu91 := Mut.mkd mu79 mk87 ap42 (by first | (simp; done) | omega)
    have hs92 := Sl.mkd hs80 mk87 (by simpa using ap43)
    have mu93 := Mut.mkd mu81 mk87 ap43 (by first | (simp; done) | omega)
    have hs94 := Sl.mkd sl76 mk87 (by simpa using ap44)
    have hs95 := Sl.mkd hs84 mk87 (by simpa using (Apart.symm ap62))
    have mu96 := Mut.mkd mu85 mk87 (Apart.symm ap62) (by first | (simp; done) | omega)
    refine L.v (o_assign (v := (.int .i64 (1 + (((matF xs).length : Nat) : Int)))) rfl) ?_
    refine L.nil ?_
    refine W.seq ?_
    refine W.region ?_
    refine L.v (o_assign (v := (.int .i64 1)) rfl) ?_
    refine L.nil ?_
    refine W.seq ?_
    refine W.region ?_
    refine L.v (o_move (v := (.slice p37 ((matF xs).length) c38)) rfl) ?_
    refine L.v (o_move (v := (.int .i64 1)) rfl) ?_
    refine L.v (v := (.int .i64 (1 + (((matF xs).length : Nat) : Int)))) (op_call [(.slice p37 ((matF xs).length) c38), (.int .i64 1)] Try.call16 rfl (heldF p37 ((matF xs).length) c38 1 sl88 (by first | omega | exact matF_le _) (by omega))) ?_
    refine L.v (o_assign (v := (.int .i64 (1 + (((matF xs).length : Nat) : Int)))) rfl) ?_
    refine L.nil ?_
    refine W.seq ?_
    refine W.seq ?_
    refine W.region ?_
    refine L.v (o_move (v := (.int .i64 (1 + (((matF xs).length : Nat) : Int)))) rfl) ?_
    refine L.v (o_ilss (a := 1 + (((matF xs).length : Nat) : Int)) (b := 0) rfl rfl rfl) ?_
    refine L.nil ?_
    refine W.condF (b := decide ((1 + (((matF xs).length : Nat) : Int) : Int) < 0)) rfl (decide_eq_false (by omega)) ?_
    refine W.skip ?_
    refine W.seq ?_
    refine W.seq ?_
    refine W.region ?_
    refine L.v (o_move (v := (.int .i64 (1 + (((matF xs).length : Nat) : Int)))) rfl) ?_
    refine L.v (o_move (v := (.int .i64 (1 + (((matF xs).length : Nat) : Int)))) rfl) ?_
    refine L.v (o_ineq (a := 1 + (((matF xs).length : Nat) : Int)) (b := 1 + (((matF xs).length : Nat) : Int)) (c := false) rfl rfl (by simp)) ?_
    refine L.nil ?_
    refine W.condF (b := false) rfl rfl ?_
    refine W.skip ?_
    refine W.seq ?_
    refine W.region ?_
    refine L.v (o_move (v := (.slice p xs.length c)) rfl) ?_
    refine L.cons (op_call [(.slice p xs.length c)] Try.call26 rfl (toElemS p c xs hs89 (by omega))) ?_
    rintro _ s99 ⟨p97, rfl, fs100⟩
    have ap101 : Apart (xs.length) (xs.length) p97 p := by simpa using Fsl.apart fs100 hs89 (el_ne _)
    have ap102 : Apart (xs.length) (xs.length) p97 p4 := by simpa using Fsl.apart fs100 hs90 (el_ne _)
    have ap103 : Apart (xs.length) ((matF xs).length) p97 p12 := by simpa using Fsl.apart fs100 hs92 (fl_ne _)
    have ap104 : Apart (xs.length) (xs.length) p97 p23 := by simpa using Fsl.apart fs100 hs94 (el_ne _)
    have ap105 : Apart (xs.length) ((matF xs).length) p97 p37 := by simpa using Fsl.apart fs100 sl88 (marks32_ne _ _)
    have ap106 : Apart (xs.length) (xs.length) p97 p54 := by simpa using Fsl.apart fs100 hs95 (el_ne _)
    have hs107 := Sl.ext hs89 fs100.ext
    have hs108 := Sl.ext hs90 fs100.ext
    have mu109 := Mut.ext mu91 fs100.ext
    have hs110 := Sl.ext hs92 fs100.ext
    have mu111 := Mut.ext mu93 fs100.ext
    have hs112 := Sl.ext hs94 fs100.ext
    have hs113 := Sl.ext sl88 fs100.ext
    have hs114 := Sl.ext hs95 fs100.ext
    have mu115 := Mut.ext mu96 fs100.ext
    have mu116 := Fsl.mut fs100 (xs.length * 3) (by simp)
    refine L.cons (op_call [(.slice p97 xs.length xs.length)] Try.call36 rfl (implMatOf p97 xs.length xs (Fsl.reads fs100) (by omega))) ?_
    rintro _ s119 ⟨p117, c118, rfl, fs120⟩
    have ap121 : Apart ((matF xs).length) (xs.length) p117 p := by simpa using Fsl.apart fs120 hs107 (el_ne _)
    have ap122 : Apart ((matF xs).length) (xs.length) p117 p4 := by simpa using Fsl.apart fs120 hs108 (el_ne _)
    have ap123 : Apart ((matF xs).length) ((matF xs).length) p117 p12 := by simpa using Fsl.apart fs120 hs110 (fl_ne _)
    have ap124 : Apart ((matF xs).length) (xs.length) p117 p23 := by simpa using Fsl.apart fs120 hs112 (el_ne _)
    have ap125 : Apart ((matF xs).length) ((matF xs).length) p117 p37 := by simpa using Fsl.apart fs120 hs113 (marks32_ne _ _)
    have ap126 : Apart ((matF xs).length) (xs.length) p117 p54 := by simpa using Fsl.apart fs120 hs114 (el_ne _)
    have ap127 : Apart ((matF xs).length) (xs.length) p117 p97 := by simpa using Fsl.apart fs120 (Fsl.reads fs100) (el_ne _)
    have hs128 := Sl.ext hs107 fs120.ext
    have hs129 := Sl.ext hs108 fs120.ext
    have mu130 := Mut.ext mu109 fs120.ext
    have hs131 := Sl.ext hs110 fs120.ext
    have mu132 := Mut.ext mu111 fs120.ext
    have hs133 := Sl.ext hs112 fs120.ext
    have hs134 := Sl.ext hs113 fs120.ext
    have hs135 := Sl.ext hs114 fs120.ext
    have mu136 := Mut.ext mu115 fs120.ext
    have hs137 := Sl.ext (Fsl.reads fs100) fs120.ext
    have mu138 := Mut.ext mu116 fs120.ext
    have mu139 := Fsl.mut fs120 ((matF xs).length) (by simp)
    refine L.v (o_move (v := (.tuple #[(.slice p117 ((matF xs).length) c118), (.bool (lineOk xs))])) rfl) ?_
    refine L.v (o_extract (vs := #[(.slice p117 ((matF xs).length) c118), (.bool (lineOk xs))]) (v := (.slice p117 ((matF xs).length) c118)) rfl rfl rfl) ?_
    refine L.v (o_extract (vs := #[(.slice p117 ((matF xs).length) c118), (.bool (lineOk xs))]) (v := (.bool (lineOk xs))) rfl rfl rfl) ?_
    refine L.v (o_assign (v := (.slice p117 ((matF xs).length) c118)) rfl) ?_
    refine L.v (o_assign (v := (.bool (lineOk xs))) rfl) ?_
    refine L.nil ?_
    refine W.seq ?_
    refine W.seq ?_
    refine W.region ?_
    refine L.v (o_move (v := (.slice p117 ((matF xs).length) c118)) rfl) ?_
    refine L.v (o_move (v := (.slice p12 ((matF xs).length) c13)) rfl) ?_
    refine L.v (v := (.bool true)) (op_call [(.slice p117 ((matF xs).length) c118), (.slice p12 ((matF xs).length) c13)] Try.call14 rfl (eqF32S p117 p12 c118 c13 (matF xs) (Fsl.reads fs120) hs131 (by first | omega | exact matF_le _))) ?_
    refine L.v (o_not (b := true) (c := false) rfl rfl) ?_
    refine L.v (o_move (v := (.bool false)) rfl) ?_
    refine L.gv (j := 4) (d₁ := 83) (b := false) rfl rfl rfl rfl (o_move (v := (.bool (lineOk xs))) rfl) ?_
    refine L.gv (j := 4) (d₁ := 83) (b := false) rfl rfl rfl rfl (o_move (v := (.bool (lineOk xs))) rfl) ?_
    refine L.gv (j := 4) (d₁ := 83) (b := false) rfl rfl rfl rfl (o_bneq (a := lineOk xs) (b := lineOk xs) (c := false) Try.underlying4 rfl rfl (by simp)) ?_
    refine L.v (o_pickF (b := false) (v := (.bool false)) rfl rfl rfl) ?_
    refine L.nil ?_
    refine W.condF (b := false) rfl rfl ?_
    refine W.skip ?_
    refine W.seq ?_
    refine W.region ?_
    refine L.v (o_assign (v := (.int .i64 1)) rfl) ?_
    refine L.nil ?_
    refine W.seq ?_
    refine W.region ?_
    refine L.v (o_move (v := (.slice p37 ((matF xs).length) c38)) rfl) ?_
    refine L.v (o_move (v := (.int .i64 1)) rfl) ?_
    refine L.v (v := (.int .i64 (1 + (((matF xs).length : Nat) : Int)))) (op_call [(.slice p37 ((matF xs).length) c38), (.int .i64 1)] Try.call16 rfl (heldF p37 ((matF xs).length) c38 1 hs134 (by first | omega | exact matF_le _) (by omega))) ?_
    refine L.v (o_assign (v := (.int .i64 (1 + (((matF xs).length : Nat) : Int)))) rfl) ?_
    refine L.nil ?_
    refine W.seq ?_
    refine W.seq ?_
    refine W.region ?_
    refine L.v (o_move (v := (.int .i64 (1 + (((matF xs).length : Nat) : Int)))) rfl) ?_
    refine L.v (o_ilss (a := 1 + (((matF xs).length : Nat) : Int)) (b := 0) rfl rfl rfl) ?_
    refine L.nil ?_
    refine W.condF (b := decide ((1 + (((matF xs).length : Nat) : Int) : Int) < 0)) rfl (decide_eq_false (by omega)) ?_
    refine W.skip ?_
    refine W.seq ?_
    refine W.seq ?_
    refine W.region ?_
    refine L.v (o_move (v := (.int .i64 (1 + (((matF xs).length : Nat) : Int)))) rfl) ?_
    refine L.v (o_move (v := (.int .i64 (1 + (((matF xs).length : Nat) : Int)))) rfl) ?_
    refine L.v (o_ineq (a := 1 + (((matF xs).length : Nat) : Int)) (b := 1 + (((matF xs).length : Nat) : Int)) (c := false) rfl rfl (by simp)) ?_
    refine L.nil ?_
    refine W.condF (b := false) rfl rfl ?_
    refine W.skip ?_
    refine W.seq ?_
    refine W.region ?_
    refine L.v (o_assign (v := (.bool true)) rfl) ?_
    refine L.nil ?_
    refine W.ret ?_
    exact RetK.one _ (.bool true) rfl rfl (Ext.refl _) rfl

end Go.Proofs.Ytpgmpjejfpmnoaa.En
