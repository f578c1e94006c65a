/- LaneSum and LaneShared in the program and in the reference, and their laws: what each call gives, for every list that can be read. -/
import Derived.Test.YtakeanehgfbbaaaEngK
import Derived.Test.YtakeanehgfbbaaaLibb
import Derived.Test.YtakeanehgfbbaaaRows
namespace Go.Proofs.Ytakeanehgfbbaaa.En
open Go
set_option linter.unusedVariables false
def laneTo (xs : List Nat) : Nat → List Nat
  | 0 => List.replicate 8 0
  | i + 1 => (laneTo xs i).set (i % 8) (fop .add .f32 ((laneTo xs i).getD (i % 8) 0) (xs.getD i 0))
def foldTo (n : Nat) (ls : List Nat) : Nat → List Nat
  | 0 => ls
  | k + 1 => (foldTo n ls k).set k (fop .add .f32 ((foldTo n ls k).getD k 0) ((foldTo n ls k).getD (k + n) 0))
def halfN : Nat → Nat
  | 0 => 4
  | 1 => 2
  | 2 => 1
  | _ => 0
def halves : Nat → List Nat → List Nat
  | 0, ls => ls
  | m + 1, ls => foldTo (halfN m) (halves m ls) (halfN m)
def laneSum (xs : List Nat) : Nat := (halves 3 (laneTo xs xs.length)).getD 0 0
theorem laneTo_len (xs : List Nat) : ∀ i, (laneTo xs i).length = 8
  | 0 => rfl
  | i + 1 => by rw [laneTo, List.length_set, laneTo_len xs i]
theorem foldTo_len (n : Nat) (ls : List Nat) : ∀ k, (foldTo n ls k).length = ls.length
  | 0 => rfl
  | k + 1 => by rw [foldTo, List.length_set, foldTo_len n ls k]
theorem halves_len (ls : List Nat) : ∀ m, (halves m ls).length = ls.length
  | 0 => rfl
  | m + 1 => by rw [halves, foldTo_len, halves_len ls m]
theorem halfN_facts (m : Nat) (h : m ≤ 3) : halfN m ≤ 4 ∧ (m < 3 → 0 < halfN m) ∧ (0 < halfN m → m < 3) ∧ halfN (m + 1) = halfN m / 2 := by
  rcases m with _ | _ | _ | _ | m
  · decide
  · decide
  · decide
  · decide
  · omega
theorem lane_rd {σ : Sg} {b T j : Nat} {ls : List Nat} (hj : j < ls.length) : Rd (sg σ b (T, ls.map (Value.float .f32))) b (0 + j * 1) (.float .f32 (ls.getD j 0)) :=
  Rd.of (sg_eq _ _ _) (by rw [show 0 + j * 1 = j by omega, List.getElem?_map, List.getD_eq_getElem?_getD, List.getElem?_eq_getElem hj]; rfl)
def laneF (xs : List Nat) : Nat := if xs.length ≤ 256 then laneSum xs else 0
def laneB (xs : List Nat) : Bool := decide (xs.length ≤ 256)
theorem laneF_yes {xs : List Nat} (h : xs.length ≤ 256) : laneF xs = laneSum xs := if_pos h
theorem laneF_no {xs : List Nat} (h : ¬ xs.length ≤ 256) : laneF xs = 0 := if_neg h
theorem laneB_yes {xs : List Nat} (h : xs.length ≤ 256) : laneB xs = true := decide_eq_true h
theorem laneB_no {xs : List Nat} (h : ¬ xs.length ≤ 256) : laneB xs = false := decide_eq_false h
def laneWF (xs : List Nat) (n : Int) : Nat := if 1 ≤ n ∧ n ≤ 8 then laneF xs else 0
def laneWB (xs : List Nat) (n : Int) : Bool := if 1 ≤ n ∧ n ≤ 8 then laneB xs else false
def laneW (xs : List Nat) (n : Int) : Value := .tuple #[.float .f32 (laneWF xs n), .bool (laneWB xs n)]
theorem laneW_in {xs : List Nat} {n : Int} (h : 1 ≤ n ∧ n ≤ 8) : laneW xs n = .tuple #[.float .f32 (laneF xs), .bool (laneB xs)] := by
  rw [laneW, laneWF, laneWB, if_pos h, if_pos h]
theorem laneW_yes {xs : List Nat} {n : Int} (h : 1 ≤ n ∧ n ≤ 8) (hx : xs.length ≤ 256) : laneW xs n = .tuple #[.float .f32 (laneSum xs), .bool true] := by
  rw [laneW_in h, laneF_yes hx, laneB_yes hx]
theorem laneW_no {xs : List Nat} {n : Int} (h : ¬ (1 ≤ n ∧ n ≤ 8) ∨ ¬ xs.length ≤ 256) : laneW xs n = .tuple #[.float .f32 0, .bool false] := by
  by_cases h1 : 1 ≤ n ∧ n ≤ 8
  · rw [laneW_in h1, laneF_no (by omega), laneB_no (by omega)]
  · rw [laneW, laneWF, laneWB, if_neg h1, if_neg h1]
theorem specSum {w0 : World} {σ : Sg} (p : Option Addr) (c : Nat) (xs : List Nat) (hs : Sl σ 1 p (xs.map fl)) (h256 : xs.length ≤ 256) :
    FnV Try.prog w0 34 [(.slice p xs.length c)] σ (.float .f32 (laneSum xs)) := by
  unfold FnV
  refine Fn.of_W 49 Try.func34 rfl Try.ntmps34 rfl ?_
  refine W.seq ?_
  refine W.region ?_
  refine L.v (o_assign (v := (.float .f32 0)) rfl) ?_
  refine L.nil ?_
  refine W.seq ?_
  refine W.region ?_
  refine L.cons (o_makeSlice (ik := .i64) (info := Try.t23) (z := .float .f32 0) 8 Try.underlying22 Try.type23 rfl rfl (by decide) (by decide)) ?_
  rintro _ _ ⟨b, hf, hw, rfl, rfl⟩
  rw [show (madeCells ((Value.float .f32 0).cells) (8 * Try.t23.size)).toList = (List.replicate 8 0).map (Value.float .f32) by show (madeCells #[_] 8).toList = _; rw [made_one]; rfl]
  refine L.v (o_assign (v := (.slice (some ⟨b, 0, none⟩) 8 8)) rfl) ?_
  refine L.nil ?_
  refine W.seq ?_
  refine W.seq ?_
  refine W.region ?_
  refine L.v (o_move (v := (.slice p xs.length c)) rfl) ?_
  refine L.v (o_len (p := p) (n := xs.length) (c := c) Try.underlying22 rfl) ?_
  refine L.v (o_move (v := (.int .i64 0)) rfl) ?_
  refine L.nil ?_
  refine W.block ?_
  refine W.loop (fun nn tt ss => ∃ (i : Nat), nn = xs.length - i ∧ (i ≤ xs.length) ∧ FrOk tt [(0, (.slice p xs.length c)), (3, (.slice (some ⟨b, 0, none⟩) 8 8)), (9, (.int .i64 (xs.length : Int))), (10, (.int .i64 (i : Int)))] ∧ sg σ b (23, (laneTo xs i).map (Value.float .f32)) = ss) _ ⟨0, rfl, (by omega), ⟨rfl, rfl, rfl, rfl, trivial⟩, rfl⟩ ?_
  rintro _ t1 _ ⟨i, rfl, hi, f2, rfl⟩
  rw [← frame_ok f2]
  show W _ _ _ _ _ (upd (upd (upd (upd t1 0 (.slice p xs.length c)) 3 (.slice (some ⟨b, 0, none⟩) 8 8)) 9 (.int .i64 (xs.length : Int))) 10 (.int .i64 (i : Int))) _
  refine W.seq ?_
  refine W.region ?_
  refine L.v (o_ilss (a := (i : Int)) (b := (xs.length : Int)) rfl rfl rfl) ?_
  refine L.nil ?_
  refine W.seq ?_
  refine W.cond (b := decide (((i : Int) : Int) < (xs.length : Int))) rfl (fun q3 => ?_) (fun q3 => ?_)
  ·
    have a4 : ((i : Int) : Int) < (xs.length : Int) := of_decide_eq_true q3
    refine W.skip ?_
    refine W.seq ?_
    refine W.block ?_
    refine W.seq ?_
    refine W.region ?_
    refine L.v (o_move (v := (.int .i64 (i : Int))) rfl) ?_
    refine L.v (o_assign (v := (.int .i64 (i : Int))) rfl) ?_
    refine L.nil ?_
    have hs' : Sl (sg σ b (23, (laneTo xs i).map (Value.float .f32))) 1 p (xs.map fl) := hs.ext ((Ext.refl _).sg hf)
    obtain ⟨b5, o6, rfl, _⟩ := hs'.elem i (by omega) 0
    refine W.drawLast 11 (fun s => s = sg σ b (23, (laneTo xs i).map (Value.float .f32))) (by kernel_rfl) (by kernel_rfl) ?_
    refine QL.v (fun _ hD => by cases hD; exact o_move (v := (.slice (some ⟨b, 0, none⟩) 8 8)) rfl) ?_
    refine QL.v (fun _ hD => by cases hD; exact o_move (v := (.int .i64 (i : Int))) rfl) ?_
    refine QL.v (fun _ hD => by cases hD; exact o_irem (a := (i : Int)) (b := 8) (c := ((i % 8 : Nat) : Int)) rfl rfl (by decide) (by rw [show ((8 : Int)) = ((8 : Nat) : Int) from rfl, ← Int.ofNat_tmod])) ?_
    refine QL.v (fun _ hD => by cases hD; exact o_indexAddr (b := b) (off := 0) (n := 8) (c := 8) (i % 8) Try.underlying22 Try.sizeOf23 rfl rfl (by omega)) ?_
    refine QL.v (fun _ hD => by cases hD; exact o_load (b := b) (off := 0 + (i % 8) * 1) (v := (.float .f32 ((laneTo xs i).getD (i % 8) 0))) Try.isAgg23 rfl (lane_rd (by rw [laneTo_len xs i]; omega)) rfl) ?_
    refine QL.v (fun _ hD => by cases hD; exact o_move (v := (.slice (some ⟨b5, o6, none⟩) xs.length c)) rfl) ?_
    refine QL.v (fun _ hD => by cases hD; exact o_move (v := (.int .i64 (i : Int))) rfl) ?_
    refine QL.v (fun _ hD => by cases hD; exact o_indexAddr (b := b5) (off := o6) (n := xs.length) (c := c) i Try.underlying22 Try.sizeOf23 rfl rfl (by omega)) ?_
    refine QL.v (fun _ hD => by cases hD; exact o_load (b := b5) (off := o6 + i * 1) (v := (.float .f32 (xs.getD i 0))) Try.isAgg23 rfl (Rds.fst (Sl.at hs' i (by omega) 0)) rfl) ?_
    refine QL.v (fun _ hD => by cases hD; exact o_farith (k := .f32) (a := (laneTo xs i).getD (i % 8) 0) (b := xs.getD i 0) rfl rfl rfl) ?_
    refine QL.v (fun _ hD => by cases hD; exact o_indexAddr (b := b) (off := 0) (n := 8) (c := 8) (i % 8) Try.underlying22 Try.sizeOf23 rfl rfl (by omega)) ?_
    refine QL.last0 rfl (o_store (b := b) (off := 0 + (i % 8) * 1) (v := (.float .f32 (fop .add .f32 ((laneTo xs i).getD (i % 8) 0) (xs.getD i 0)))) (cs := (laneTo xs i).map (Value.float .f32)) Try.sizeOf23 rfl rfl rfl (sg_eq _ _ _) (by rw [List.length_map, laneTo_len xs i]; omega) hw) ?_
    rintro _ _ ⟨rfl, rfl⟩
    rw [sg_sg, show ((laneTo xs i).map (Value.float .f32)).set (0 + (i % 8) * 1) (.float .f32 (fop .add .f32 ((laneTo xs i).getD (i % 8) 0) (xs.getD i 0))) = (laneTo xs (i + 1)).map (Value.float .f32) by rw [show 0 + (i % 8) * 1 = i % 8 by omega, ← List.map_set]; rfl]
    refine W.region ?_
    refine L.v (o_iadd (a := (i : Int)) (b := 1) (c := ((i + 1 : Nat) : Int)) rfl rfl (by rw [IntWalk.i64_in _ (by omega)]; try omega)) ?_
    refine L.v (o_move (v := (.int .i64 (((i + 1 : Nat) : Int)))) rfl) ?_
    refine L.nil ?_
    exact ⟨_, (by omega), i + 1, rfl, (by omega), ⟨rfl, rfl, rfl, rfl, trivial⟩, rfl⟩
  ·
    have a7 : ¬ (((i : Int) : Int) < (xs.length : Int)) := of_decide_eq_false q3
    refine W.exit ?_
    refine W.seq ?_
    refine W.seq ?_
    obtain rfl : i = xs.length := by omega
    refine W.region ?_
    refine L.v (o_assign (v := (.int .i64 4)) rfl) ?_
    refine L.nil ?_
    refine W.block ?_
    refine W.loop (fun nn tt ss => ∃ (m : Nat), nn = 3 - m ∧ (m ≤ 3) ∧ FrOk tt [(3, (.slice (some ⟨b, 0, none⟩) 8 8)), (5, (.int .i64 (((halfN m : Nat) : Int))))] ∧ sg σ b (23, (halves m (laneTo xs xs.length)).map (Value.float .f32)) = ss) _ ⟨0, rfl, (by omega), ⟨rfl, rfl, trivial⟩, rfl⟩ ?_
    rintro _ t8 _ ⟨m, rfl, hm, f9, rfl⟩
    rw [← frame_ok f9]
    show W _ _ _ _ _ (upd (upd t8 3 (.slice (some ⟨b, 0, none⟩) 8 8)) 5 (.int .i64 (((halfN m : Nat) : Int)))) _
    have hn := halfN_facts m hm
    refine W.seq ?_
    refine W.seq ?_
    refine W.region ?_
    refine L.v (o_move (v := (.int .i64 (((halfN m : Nat) : Int)))) rfl) ?_
    refine L.v (o_igtr (a := ((halfN m : Nat) : Int)) (b := 0) rfl rfl rfl) ?_
    refine L.nil ?_
    refine W.cond (b := decide ((0 : Int) < (((halfN m : Nat) : Int)))) rfl (fun q10 => ?_) (fun q10 => ?_)
    ·
      have a11 : (0 : Int) < (((halfN m : Nat) : Int)) := of_decide_eq_true q10
      refine W.skip ?_
      refine W.seq ?_
      refine W.block ?_
      refine W.seq ?_
      refine W.region ?_
      refine L.v (o_assign (v := (.int .i64 0)) rfl) ?_
      refine L.nil ?_
      refine W.block ?_
      refine W.loop (fun nn tt ss => ∃ (k : Nat), nn = halfN m - k ∧ (k ≤ halfN m) ∧ FrOk tt [(3, (.slice (some ⟨b, 0, none⟩) 8 8)), (5, (.int .i64 (((halfN m : Nat) : Int)))), (6, (.int .i64 (k : Int)))] ∧ sg σ b (23, (foldTo (halfN m) (halves m (laneTo xs xs.length)) k).map (Value.float .f32)) = ss) _ ⟨0, rfl, (by omega), ⟨rfl, rfl, rfl, trivial⟩, rfl⟩ ?_
      rintro _ t12 _ ⟨k, rfl, hk, f13, rfl⟩
      rw [← frame_ok f13]
      show W _ _ _ _ _ (upd (upd (upd t12 3 (.slice (some ⟨b, 0, none⟩) 8 8)) 5 (.int .i64 (((halfN m : Nat) : Int)))) 6 (.int .i64 (k : Int))) _
      refine W.seq ?_
      refine W.seq ?_
      refine W.region ?_
      refine L.v (o_move (v := (.int .i64 (k : Int))) rfl) ?_
      refine L.v (o_move (v := (.int .i64 (((halfN m : Nat) : Int)))) rfl) ?_
      refine L.v (o_ilss (a := (k : Int)) (b := ((halfN m : Nat) : Int)) rfl rfl rfl) ?_
      refine L.nil ?_
      refine W.cond (b := decide (((k : Int) : Int) < (((halfN m : Nat) : Int)))) rfl (fun q14 => ?_) (fun q14 => ?_)
      ·
        have a15 : ((k : Int) : Int) < (((halfN m : Nat) : Int)) := of_decide_eq_true q14
        refine W.skip ?_
        refine W.seq ?_
        refine W.block ?_
        refine W.drawLast 12 (fun s => s = sg σ b (23, (foldTo (halfN m) (halves m (laneTo xs xs.length)) k).map (Value.float .f32))) (by kernel_rfl) (by kernel_rfl) ?_
        refine QL.v (fun _ hD => by cases hD; exact o_move (v := (.slice (some ⟨b, 0, none⟩) 8 8)) rfl) ?_
        refine QL.v (fun _ hD => by cases hD; exact o_move (v := (.int .i64 (k : Int))) rfl) ?_
        refine QL.v (fun _ hD => by cases hD; exact o_indexAddr (b := b) (off := 0) (n := 8) (c := 8) k Try.underlying22 Try.sizeOf23 rfl rfl (by omega)) ?_
        refine QL.v (fun _ hD => by cases hD; exact o_load (b := b) (off := 0 + k * 1) (v := (.float .f32 ((foldTo (halfN m) (halves m (laneTo xs xs.length)) k).getD k 0))) Try.isAgg23 rfl (lane_rd (by rw [foldTo_len (halfN m) (halves m (laneTo xs xs.length)) k, halves_len (laneTo xs xs.length) m, laneTo_len xs xs.length]; omega)) rfl) ?_
        refine QL.v (fun _ hD => by cases hD; exact o_move (v := (.slice (some ⟨b, 0, none⟩) 8 8)) rfl) ?_
        refine QL.v (fun _ hD => by cases hD; exact o_move (v := (.int .i64 (k : Int))) rfl) ?_
        refine QL.v (fun _ hD => by cases hD; exact o_move (v := (.int .i64 (((halfN m : Nat) : Int)))) rfl) ?_
        refine QL.v (fun _ hD => by cases hD; exact o_iadd (a := (k : Int)) (b := ((halfN m : Nat) : Int)) (c := ((k + halfN m : Nat) : Int)) rfl rfl (by rw [IntWalk.i64_in _ (by omega)]; try omega)) ?_
        refine QL.v (fun _ hD => by cases hD; exact o_indexAddr (b := b) (off := 0) (n := 8) (c := 8) (k + halfN m) Try.underlying22 Try.sizeOf23 rfl rfl (by omega)) ?_
        refine QL.v (fun _ hD => by cases hD; exact o_load (b := b) (off := 0 + (k + halfN m) * 1) (v := (.float .f32 ((foldTo (halfN m) (halves m (laneTo xs xs.length)) k).getD (k + halfN m) 0))) Try.isAgg23 rfl (lane_rd (by rw [foldTo_len (halfN m) (halves m (laneTo xs xs.length)) k, halves_len (laneTo xs xs.length) m, laneTo_len xs xs.length]; omega)) rfl) ?_
        refine QL.v (fun _ hD => by cases hD; exact o_farith (k := .f32) (a := (foldTo (halfN m) (halves m (laneTo xs xs.length)) k).getD k 0) (b := (foldTo (halfN m) (halves m (laneTo xs xs.length)) k).getD (k + halfN m) 0) rfl rfl rfl) ?_
        refine QL.v (fun _ hD => by cases hD; exact o_indexAddr (b := b) (off := 0) (n := 8) (c := 8) k Try.underlying22 Try.sizeOf23 rfl rfl (by omega)) ?_
        refine QL.last0 rfl (o_store (b := b) (off := 0 + k * 1) (v := (.float .f32 (fop .add .f32 ((foldTo (halfN m) (halves m (laneTo xs xs.length)) k).getD k 0) ((foldTo (halfN m) (halves m (laneTo xs xs.length)) k).getD (k + halfN m) 0)))) (cs := (foldTo (halfN m) (halves m (laneTo xs xs.length)) k).map (Value.float .f32)) Try.sizeOf23 rfl rfl rfl (sg_eq _ _ _) (by rw [List.length_map, foldTo_len (halfN m) (halves m (laneTo xs xs.length)) k, halves_len (laneTo xs xs.length) m, laneTo_len xs xs.length]; omega) hw) ?_
        rintro _ _ ⟨rfl, rfl⟩
        rw [sg_sg, show ((foldTo (halfN m) (halves m (laneTo xs xs.length)) k).map (Value.float .f32)).set (0 + k * 1) (.float .f32 (fop .add .f32 ((foldTo (halfN m) (halves m (laneTo xs xs.length)) k).getD k 0) ((foldTo (halfN m) (halves m (laneTo xs xs.length)) k).getD (k + halfN m) 0))) = (foldTo (halfN m) (halves m (laneTo xs xs.length)) (k + 1)).map (Value.float .f32) by rw [show 0 + k * 1 = k by omega, ← List.map_set]; rfl]
        refine W.region ?_
        refine L.v (o_move (v := (.int .i64 (k : Int))) rfl) ?_
        refine L.v (o_iadd (a := (k : Int)) (b := 1) (c := ((k + 1 : Nat) : Int)) rfl rfl (by rw [IntWalk.i64_in _ (by omega)]; try omega)) ?_
        refine L.v (o_assign (v := (.int .i64 (((k + 1 : Nat) : Int)))) rfl) ?_
        refine L.nil ?_
        exact ⟨_, (by omega), k + 1, rfl, (by omega), ⟨rfl, rfl, rfl, trivial⟩, rfl⟩
      ·
        have a16 : ¬ (((k : Int) : Int) < (((halfN m : Nat) : Int))) := of_decide_eq_false q14
        refine W.exit ?_
        obtain rfl : k = halfN m := by omega
        show W _ _ _ _ _ _ (sg σ b (23, (halves (m + 1) (laneTo xs xs.length)).map (Value.float .f32)))
        refine W.region ?_
        refine L.v (o_move (v := (.int .i64 (((halfN m : Nat) : Int)))) rfl) ?_
        refine L.v (o_iquo (a := ((halfN m : Nat) : Int)) (b := 2) (c := ((halfN (m + 1) : Nat) : Int)) rfl rfl (by decide) (by rw [show ((2 : Int)) = ((2 : Nat) : Int) from rfl, ← Int.ofNat_tdiv, IntWalk.i64_in _ (by omega)]; omega)) ?_
        refine L.v (o_assign (v := (.int .i64 (((halfN (m + 1) : Nat) : Int)))) rfl) ?_
        refine L.nil ?_
        exact ⟨_, (by omega), m + 1, rfl, (by omega), ⟨rfl, rfl, trivial⟩, rfl⟩
    ·
      have a17 : ¬ ((0 : Int) < (((halfN m : Nat) : Int))) := of_decide_eq_false q10
      refine W.exit ?_
      refine W.seq ?_
      obtain rfl : m = 3 := by omega
      refine W.region ?_
      refine L.v (o_move (v := (.slice (some ⟨b, 0, none⟩) 8 8)) rfl) ?_
      refine L.v (o_indexAddr (b := b) (off := 0) (n := 8) (c := 8) 0 Try.underlying22 Try.sizeOf23 rfl rfl (by omega)) ?_
      refine L.v (o_load (b := b) (off := 0 + 0 * 1) (v := (.float .f32 ((halves 3 (laneTo xs xs.length)).getD 0 0))) Try.isAgg23 rfl (lane_rd (by rw [halves_len (laneTo xs xs.length) 3, laneTo_len xs xs.length]; omega)) rfl) ?_
      refine L.v (o_assign (v := (.float .f32 ((halves 3 (laneTo xs xs.length)).getD 0 0))) rfl) ?_
      refine L.nil ?_
      refine W.ret ?_
      exact RetK.one σ (.float .f32 ((halves 3 (laneTo xs xs.length)).getD 0 0)) rfl rfl ((Ext.refl _).sg hf) ⟨rfl, rfl⟩

theorem implSum {w0 : World} {σ : Sg} (p : Option Addr) (c : Nat) (xs : List Nat) (hs : Sl σ 1 p (xs.map fl)) (h256 : xs.length ≤ 256) :
    FnV Try.prog w0 35 [(.slice p xs.length c)] σ (.float .f32 (laneSum xs)) := by
  unfold FnV
  refine Fn.of_W 44 Try.func35 rfl Try.ntmps35 rfl ?_
  refine W.seq ?_
  refine W.region ?_
  refine L.v (o_assign (v := (.float .f32 0)) rfl) ?_
  refine L.nil ?_
  refine W.seq ?_
  refine W.region ?_
  refine L.cons (o_alloc Try.zeroValue52 ((List.replicate 8 0).map (Value.float .f32)) rfl) ?_
  rintro _ _ ⟨b, hf, hw, rfl, rfl⟩
  refine L.nil ?_
  refine W.seq ?_
  refine W.seq ?_
  refine W.region ?_
  refine L.v (o_move (v := (.slice p xs.length c)) rfl) ?_
  refine L.v (o_len (p := p) (n := xs.length) (c := c) Try.underlying22 rfl) ?_
  refine L.v (o_move (v := (.int .i64 0)) rfl) ?_
  refine L.nil ?_
  refine W.block ?_
  refine W.loop (fun nn tt ss => ∃ (i : Nat), nn = xs.length - i ∧ (i ≤ xs.length) ∧ FrOk tt [(3, (.pointer (some ⟨b, 0, none⟩))), (8, (.slice p xs.length c)), (9, (.int .i64 (xs.length : Int))), (10, (.int .i64 (i : Int)))] ∧ sg σ b (52, (laneTo xs i).map (Value.float .f32)) = ss) _ ⟨0, rfl, (by omega), ⟨rfl, rfl, rfl, rfl, trivial⟩, rfl⟩ ?_
  rintro _ t1 _ ⟨i, rfl, hi, f2, rfl⟩
  rw [← frame_ok f2]
  show W _ _ _ _ _ (upd (upd (upd (upd t1 3 (.pointer (some ⟨b, 0, none⟩))) 8 (.slice p xs.length c)) 9 (.int .i64 (xs.length : Int))) 10 (.int .i64 (i : Int))) _
  refine W.seq ?_
  refine W.region ?_
  refine L.v (o_ilss (a := (i : Int)) (b := (xs.length : Int)) rfl rfl rfl) ?_
  refine L.nil ?_
  refine W.seq ?_
  refine W.cond (b := decide (((i : Int) : Int) < (xs.length : Int))) rfl (fun q3 => ?_) (fun q3 => ?_)
  ·
    have a4 : ((i : Int) : Int) < (xs.length : Int) := of_decide_eq_true q3
    refine W.skip ?_
    refine W.seq ?_
    refine W.block ?_
    refine W.seq ?_
    have hs' : Sl (sg σ b (52, (laneTo xs i).map (Value.float .f32))) 1 p (xs.map fl) := hs.ext ((Ext.refl _).sg hf)
    obtain ⟨b5, o6, rfl, _⟩ := hs'.elem i (by omega) 0
    refine W.region ?_
    refine L.v (o_move (v := (.int .i64 (i : Int))) rfl) ?_
    refine L.v (o_indexAddr (b := b5) (off := o6) (n := xs.length) (c := c) i Try.underlying22 Try.sizeOf23 rfl rfl (by omega)) ?_
    refine L.v (o_load (b := b5) (off := o6 + i * 1) (v := (.float .f32 (xs.getD i 0))) Try.isAgg23 rfl (Rds.fst (Sl.at hs' i (by omega) 0)) rfl) ?_
    refine L.v (o_assign (v := (.int .i64 (i : Int))) rfl) ?_
    refine L.v (o_assign (v := (.float .f32 (xs.getD i 0))) rfl) ?_
    refine L.nil ?_
    refine W.region ?_
    refine L.v (o_move (v := (.int .i64 (i : Int))) rfl) ?_
    refine L.v (o_irem (a := (i : Int)) (b := 8) (c := ((i % 8 : Nat) : Int)) rfl rfl (by decide) (by rw [show ((8 : Int)) = ((8 : Nat) : Int) from rfl, ← Int.ofNat_tmod])) ?_
    refine L.v (o_indexAddrA (b := b) (off := 0) (i % 8) Try.underlying52 Try.sizeOf23 rfl rfl (by omega)) ?_
    refine L.v (o_load (b := b) (off := 0 + (i % 8) * 1) (v := (.float .f32 ((laneTo xs i).getD (i % 8) 0))) Try.isAgg23 rfl (lane_rd (by rw [laneTo_len xs i]; omega)) rfl) ?_
    refine L.v (o_move (v := (.float .f32 (xs.getD i 0))) rfl) ?_
    refine L.v (o_farith (k := .f32) (a := (laneTo xs i).getD (i % 8) 0) (b := xs.getD i 0) rfl rfl rfl) ?_
    refine L.v (o_indexAddrA (b := b) (off := 0) (i % 8) Try.underlying52 Try.sizeOf23 rfl rfl (by omega)) ?_
    refine L.cons0 (o_store (b := b) (off := 0 + (i % 8) * 1) (v := (.float .f32 (fop .add .f32 ((laneTo xs i).getD (i % 8) 0) (xs.getD i 0)))) (cs := (laneTo xs i).map (Value.float .f32)) Try.sizeOf23 rfl rfl rfl (sg_eq _ _ _) (by rw [List.length_map, laneTo_len xs i]; omega) hw) ?_
    rintro _ _ ⟨rfl, rfl⟩
    rw [sg_sg, show ((laneTo xs i).map (Value.float .f32)).set (0 + (i % 8) * 1) (.float .f32 (fop .add .f32 ((laneTo xs i).getD (i % 8) 0) (xs.getD i 0))) = (laneTo xs (i + 1)).map (Value.float .f32) by rw [show 0 + (i % 8) * 1 = i % 8 by omega, ← List.map_set]; rfl]
    refine L.nil ?_
    refine W.region ?_
    refine L.v (o_iadd (a := (i : Int)) (b := 1) (c := ((i + 1 : Nat) : Int)) rfl rfl (by rw [IntWalk.i64_in _ (by omega)]; try omega)) ?_
    refine L.v (o_move (v := (.int .i64 (((i + 1 : Nat) : Int)))) rfl) ?_
    refine L.nil ?_
    exact ⟨_, (by omega), i + 1, rfl, (by omega), ⟨rfl, rfl, rfl, rfl, trivial⟩, rfl⟩
  ·
    have a7 : ¬ (((i : Int) : Int) < (xs.length : Int)) := of_decide_eq_false q3
    refine W.exit ?_
    refine W.seq ?_
    refine W.seq ?_
    obtain rfl : i = xs.length := by omega
    refine W.region ?_
    refine L.v (o_assign (v := (.int .i64 4)) rfl) ?_
    refine L.nil ?_
    refine W.block ?_
    refine W.loop (fun nn tt ss => ∃ (m : Nat), nn = 3 - m ∧ (m ≤ 3) ∧ FrOk tt [(3, (.pointer (some ⟨b, 0, none⟩))), (6, (.int .i64 (((halfN m : Nat) : Int))))] ∧ sg σ b (52, (halves m (laneTo xs xs.length)).map (Value.float .f32)) = ss) _ ⟨0, rfl, (by omega), ⟨rfl, rfl, trivial⟩, rfl⟩ ?_
    rintro _ t8 _ ⟨m, rfl, hm, f9, rfl⟩
    rw [← frame_ok f9]
    show W _ _ _ _ _ (upd (upd t8 3 (.pointer (some ⟨b, 0, none⟩))) 6 (.int .i64 (((halfN m : Nat) : Int)))) _
    have hn := halfN_facts m hm
    refine W.seq ?_
    refine W.seq ?_
    refine W.region ?_
    refine L.v (o_move (v := (.int .i64 (((halfN m : Nat) : Int)))) rfl) ?_
    refine L.v (o_igtr (a := ((halfN m : Nat) : Int)) (b := 0) rfl rfl rfl) ?_
    refine L.nil ?_
    refine W.cond (b := decide ((0 : Int) < (((halfN m : Nat) : Int)))) rfl (fun q10 => ?_) (fun q10 => ?_)
    ·
      have a11 : (0 : Int) < (((halfN m : Nat) : Int)) := of_decide_eq_true q10
      refine W.skip ?_
      refine W.seq ?_
      refine W.block ?_
      refine W.seq ?_
      refine W.region ?_
      refine L.v (o_move (v := (.int .i64 (((halfN m : Nat) : Int)))) rfl) ?_
      refine L.v (o_move (v := (.int .i64 0)) rfl) ?_
      refine L.nil ?_
      refine W.block ?_
      refine W.loop (fun nn tt ss => ∃ (k : Nat), nn = halfN m - k ∧ (k ≤ halfN m) ∧ FrOk tt [(3, (.pointer (some ⟨b, 0, none⟩))), (6, (.int .i64 (((halfN m : Nat) : Int)))), (27, (.int .i64 (((halfN m : Nat) : Int)))), (28, (.int .i64 (k : Int)))] ∧ sg σ b (52, (foldTo (halfN m) (halves m (laneTo xs xs.length)) k).map (Value.float .f32)) = ss) _ ⟨0, rfl, (by omega), ⟨rfl, rfl, rfl, rfl, trivial⟩, rfl⟩ ?_
      rintro _ t12 _ ⟨k, rfl, hk, f13, rfl⟩
      rw [← frame_ok f13]
      show W _ _ _ _ _ (upd (upd (upd (upd t12 3 (.pointer (some ⟨b, 0, none⟩))) 6 (.int .i64 (((halfN m : Nat) : Int)))) 27 (.int .i64 (((halfN m : Nat) : Int)))) 28 (.int .i64 (k : Int))) _
      refine W.seq ?_
      refine W.region ?_
      refine L.v (o_ilss (a := (k : Int)) (b := ((halfN m : Nat) : Int)) rfl rfl rfl) ?_
      refine L.nil ?_
      refine W.seq ?_
      refine W.cond (b := decide (((k : Int) : Int) < (((halfN m : Nat) : Int)))) rfl (fun q14 => ?_) (fun q14 => ?_)
      ·
        have a15 : ((k : Int) : Int) < (((halfN m : Nat) : Int)) := of_decide_eq_true q14
        refine W.skip ?_
        refine W.seq ?_
        refine W.block ?_
        refine W.seq ?_
        refine W.region ?_
        refine L.v (o_move (v := (.int .i64 (k : Int))) rfl) ?_
        refine L.v (o_assign (v := (.int .i64 (k : Int))) rfl) ?_
        refine L.nil ?_
        refine W.drawLast 10 (fun s => s = sg σ b (52, (foldTo (halfN m) (halves m (laneTo xs xs.length)) k).map (Value.float .f32))) (by kernel_rfl) (by kernel_rfl) ?_
        refine QL.v (fun _ hD => by cases hD; exact o_move (v := (.int .i64 (k : Int))) rfl) ?_
        refine QL.v (fun _ hD => by cases hD; exact o_indexAddrA (b := b) (off := 0) k Try.underlying52 Try.sizeOf23 rfl rfl (by omega)) ?_
        refine QL.v (fun _ hD => by cases hD; exact o_load (b := b) (off := 0 + k * 1) (v := (.float .f32 ((foldTo (halfN m) (halves m (laneTo xs xs.length)) k).getD k 0))) Try.isAgg23 rfl (lane_rd (by rw [foldTo_len (halfN m) (halves m (laneTo xs xs.length)) k, halves_len (laneTo xs xs.length) m, laneTo_len xs xs.length]; omega)) rfl) ?_
        refine QL.v (fun _ hD => by cases hD; exact o_move (v := (.int .i64 (k : Int))) rfl) ?_
        refine QL.v (fun _ hD => by cases hD; exact o_move (v := (.int .i64 (((halfN m : Nat) : Int)))) rfl) ?_
        refine QL.v (fun _ hD => by cases hD; exact o_iadd (a := (k : Int)) (b := ((halfN m : Nat) : Int)) (c := ((k + halfN m : Nat) : Int)) rfl rfl (by rw [IntWalk.i64_in _ (by omega)]; try omega)) ?_
        refine QL.v (fun _ hD => by cases hD; exact o_indexAddrA (b := b) (off := 0) (k + halfN m) Try.underlying52 Try.sizeOf23 rfl rfl (by omega)) ?_
        refine QL.v (fun _ hD => by cases hD; exact o_load (b := b) (off := 0 + (k + halfN m) * 1) (v := (.float .f32 ((foldTo (halfN m) (halves m (laneTo xs xs.length)) k).getD (k + halfN m) 0))) Try.isAgg23 rfl (lane_rd (by rw [foldTo_len (halfN m) (halves m (laneTo xs xs.length)) k, halves_len (laneTo xs xs.length) m, laneTo_len xs xs.length]; omega)) rfl) ?_
        refine QL.v (fun _ hD => by cases hD; exact o_farith (k := .f32) (a := (foldTo (halfN m) (halves m (laneTo xs xs.length)) k).getD k 0) (b := (foldTo (halfN m) (halves m (laneTo xs xs.length)) k).getD (k + halfN m) 0) rfl rfl rfl) ?_
        refine QL.v (fun _ hD => by cases hD; exact o_indexAddrA (b := b) (off := 0) k Try.underlying52 Try.sizeOf23 rfl rfl (by omega)) ?_
        refine QL.last0 rfl (o_store (b := b) (off := 0 + k * 1) (v := (.float .f32 (fop .add .f32 ((foldTo (halfN m) (halves m (laneTo xs xs.length)) k).getD k 0) ((foldTo (halfN m) (halves m (laneTo xs xs.length)) k).getD (k + halfN m) 0)))) (cs := (foldTo (halfN m) (halves m (laneTo xs xs.length)) k).map (Value.float .f32)) Try.sizeOf23 rfl rfl rfl (sg_eq _ _ _) (by rw [List.length_map, foldTo_len (halfN m) (halves m (laneTo xs xs.length)) k, halves_len (laneTo xs xs.length) m, laneTo_len xs xs.length]; omega) hw) ?_
        rintro _ _ ⟨rfl, rfl⟩
        rw [sg_sg, show ((foldTo (halfN m) (halves m (laneTo xs xs.length)) k).map (Value.float .f32)).set (0 + k * 1) (.float .f32 (fop .add .f32 ((foldTo (halfN m) (halves m (laneTo xs xs.length)) k).getD k 0) ((foldTo (halfN m) (halves m (laneTo xs xs.length)) k).getD (k + halfN m) 0))) = (foldTo (halfN m) (halves m (laneTo xs xs.length)) (k + 1)).map (Value.float .f32) by rw [show 0 + k * 1 = k by omega, ← List.map_set]; rfl]
        refine W.region ?_
        refine L.v (o_iadd (a := (k : Int)) (b := 1) (c := ((k + 1 : Nat) : Int)) rfl rfl (by rw [IntWalk.i64_in _ (by omega)]; try omega)) ?_
        refine L.v (o_move (v := (.int .i64 (((k + 1 : Nat) : Int)))) rfl) ?_
        refine L.nil ?_
        exact ⟨_, (by omega), k + 1, rfl, (by omega), ⟨rfl, rfl, rfl, rfl, trivial⟩, rfl⟩
      ·
        have a16 : ¬ (((k : Int) : Int) < (((halfN m : Nat) : Int))) := of_decide_eq_false q14
        refine W.exit ?_
        obtain rfl : k = halfN m := by omega
        show W _ _ _ _ _ _ (sg σ b (52, (halves (m + 1) (laneTo xs xs.length)).map (Value.float .f32)))
        refine W.region ?_
        refine L.v (o_move (v := (.int .i64 (((halfN m : Nat) : Int)))) rfl) ?_
        refine L.v (o_iquo (a := ((halfN m : Nat) : Int)) (b := 2) (c := ((halfN (m + 1) : Nat) : Int)) rfl rfl (by decide) (by rw [show ((2 : Int)) = ((2 : Nat) : Int) from rfl, ← Int.ofNat_tdiv, IntWalk.i64_in _ (by omega)]; omega)) ?_
        refine L.v (o_assign (v := (.int .i64 (((halfN (m + 1) : Nat) : Int)))) rfl) ?_
        refine L.nil ?_
        exact ⟨_, (by omega), m + 1, rfl, (by omega), ⟨rfl, rfl, trivial⟩, rfl⟩
    ·
      have a17 : ¬ ((0 : Int) < (((halfN m : Nat) : Int))) := of_decide_eq_false q10
      refine W.exit ?_
      refine W.seq ?_
      obtain rfl : m = 3 := by omega
      refine W.region ?_
      refine L.v (o_indexAddrA (b := b) (off := 0) 0 Try.underlying52 Try.sizeOf23 rfl rfl (by omega)) ?_
      refine L.v (o_load (b := b) (off := 0 + 0 * 1) (v := (.float .f32 ((halves 3 (laneTo xs xs.length)).getD 0 0))) Try.isAgg23 rfl (lane_rd (by rw [halves_len (laneTo xs xs.length) 3, laneTo_len xs xs.length]; omega)) rfl) ?_
      refine L.v (o_assign (v := (.float .f32 ((halves 3 (laneTo xs xs.length)).getD 0 0))) rfl) ?_
      refine L.nil ?_
      refine W.ret ?_
      exact RetK.one σ (.float .f32 ((halves 3 (laneTo xs xs.length)).getD 0 0)) rfl rfl ((Ext.refl _).sg hf) ⟨rfl, rfl⟩

theorem specLane {w0 : World} {σ : Sg} (p : Option Addr) (c : Nat) (xs : List Nat) (hs : Sl σ 1 p (xs.map fl)) :
    FnV Try.prog w0 24 [(.slice p xs.length c)] σ (.tuple #[.float .f32 (laneF xs), .bool (laneB xs)]) := by
  unfold FnV
  refine Fn.of_W 9 Try.func24 rfl Try.ntmps24 rfl ?_
  refine W.seq ?_
  refine W.region ?_
  refine L.v (o_assign (v := (.float .f32 0)) rfl) ?_
  refine L.v (o_assign (v := (.bool false)) rfl) ?_
  refine L.nil ?_
  refine W.seq ?_
  refine W.seq ?_
  refine W.region ?_
  refine L.v (o_move (v := (.slice p xs.length c)) rfl) ?_
  refine L.v (o_len (p := p) (n := xs.length) (c := c) Try.underlying22 rfl) ?_
  refine L.v (o_igtr (a := (xs.length : Int)) (b := 256) rfl rfl rfl) ?_
  refine L.nil ?_
  refine W.cond (b := decide ((256 : Int) < (xs.length : Int))) rfl (fun q1 => ?_) (fun q1 => ?_)
  ·
    have a2 : (256 : Int) < (xs.length : Int) := of_decide_eq_true q1
    refine W.seq ?_
    refine W.region ?_
    refine L.v (o_assign (v := (.float .f32 0)) rfl) ?_
    refine L.v (o_assign (v := (.bool false)) rfl) ?_
    refine L.nil ?_
    refine W.ret ?_
    exact RetK.two σ (.float .f32 0) (.bool false) rfl rfl rfl rfl rfl (Ext.refl _) ⟨by first | (rw [laneF_yes (by omega), laneB_yes (by omega)]) | (rw [laneF_no (by omega), laneB_no (by omega)]), rfl⟩
  ·
    have a3 : ¬ ((256 : Int) < (xs.length : Int)) := of_decide_eq_false q1
    refine W.skip ?_
    refine W.seq ?_
    refine W.region ?_
    refine L.v (o_move (v := (.slice p xs.length c)) rfl) ?_
    refine L.v (v := (.float .f32 (laneSum xs))) (op_call [(.slice p xs.length c)] Try.call34 rfl (specSum p c xs hs (by omega))) ?_
    refine L.v (o_assign (v := (.float .f32 (laneSum xs))) rfl) ?_
    refine L.v (o_assign (v := (.bool true)) rfl) ?_
    refine L.nil ?_
    refine W.ret ?_
    exact RetK.two σ (.float .f32 (laneSum xs)) (.bool true) rfl rfl rfl rfl rfl (Ext.refl _) ⟨by first | (rw [laneF_yes (by omega), laneB_yes (by omega)]) | (rw [laneF_no (by omega), laneB_no (by omega)]), rfl⟩

theorem implLane {w0 : World} {σ : Sg} (p : Option Addr) (c : Nat) (xs : List Nat) (hs : Sl σ 1 p (xs.map fl)) :
    FnV Try.prog w0 25 [(.slice p xs.length c)] σ (.tuple #[.float .f32 (laneF xs), .bool (laneB xs)]) := by
  unfold FnV
  refine Fn.of_W 9 Try.func25 rfl Try.ntmps25 rfl ?_
  refine W.seq ?_
  refine W.region ?_
  refine L.v (o_assign (v := (.float .f32 0)) rfl) ?_
  refine L.v (o_assign (v := (.bool false)) rfl) ?_
  refine L.nil ?_
  refine W.seq ?_
  refine W.seq ?_
  refine W.region ?_
  refine L.v (o_move (v := (.slice p xs.length c)) rfl) ?_
  refine L.v (v := (.bool (decide ((xs.length : Int) ≤ 256)))) (op_call [(.slice p xs.length c)] Try.call33 rfl (isListF p xs.length c)) ?_
  refine L.v (o_not (b := decide ((xs.length : Int) ≤ 256)) rfl rfl) ?_
  refine L.nil ?_
  refine W.cond (b := !(decide ((xs.length : Int) ≤ 256))) rfl (fun q1 => ?_) (fun q1 => ?_)
  ·
    have a2 : ¬ ((xs.length : Int) ≤ 256) := of_decide_eq_false (bn_t q1)
    refine W.seq ?_
    refine W.region ?_
    refine L.v (o_assign (v := (.float .f32 0)) rfl) ?_
    refine L.v (o_assign (v := (.bool false)) rfl) ?_
    refine L.nil ?_
    refine W.ret ?_
    exact RetK.two σ (.float .f32 0) (.bool false) rfl rfl rfl rfl rfl (Ext.refl _) ⟨by first | (rw [laneF_yes (by omega), laneB_yes (by omega)]) | (rw [laneF_no (by omega), laneB_no (by omega)]), rfl⟩
  ·
    have a3 : (xs.length : Int) ≤ 256 := of_decide_eq_true (bn_f q1)
    refine W.skip ?_
    refine W.seq ?_
    refine W.region ?_
    refine L.v (o_move (v := (.slice p xs.length c)) rfl) ?_
    refine L.v (v := (.float .f32 (laneSum xs))) (op_call [(.slice p xs.length c)] Try.call35 rfl (implSum p c xs hs (by omega))) ?_
    refine L.v (o_assign (v := (.float .f32 (laneSum xs))) rfl) ?_
    refine L.v (o_assign (v := (.bool true)) rfl) ?_
    refine L.nil ?_
    refine W.ret ?_
    exact RetK.two σ (.float .f32 (laneSum xs)) (.bool true) rfl rfl rfl rfl rfl (Ext.refl _) ⟨by first | (rw [laneF_yes (by omega), laneB_yes (by omega)]) | (rw [laneF_no (by omega), laneB_no (by omega)]), rfl⟩

theorem lawLane {w0 : World} {σ : Sg} (p : Option Addr) (c : Nat) (xs : List Nat) (hs : Sl σ 1 p (xs.map fl)) :
    Fn Try.prog w0 7 [(.slice p xs.length c)] σ (fun u _ => u = .bool true) := by
  refine Fn.of_W 40 Try.func7 rfl Try.ntmps7 rfl ?_
  refine W.seq ?_
  refine W.region ?_
  refine L.v (o_assign (v := (.bool false)) rfl) ?_
  refine L.nil ?_
  refine W.seq ?_
  refine W.seq ?_
  refine W.region ?_
  refine L.v (o_move (v := (.slice p xs.length c)) rfl) ?_
  refine L.v (o_len (p := p) (n := xs.length) (c := c) Try.underlying22 rfl) ?_
  refine L.v (o_igtr (a := (xs.length : Int)) (b := 1048576) rfl rfl rfl) ?_
  refine L.nil ?_
  refine W.cond (b := decide ((1048576 : Int) < (xs.length : Int))) rfl (fun q1 => ?_) (fun q1 => ?_)
  ·
    have a2 : (1048576 : Int) < (xs.length : Int) := of_decide_eq_true q1
    refine W.seq ?_
    refine W.region ?_
    refine L.v (o_assign (v := (.bool true)) rfl) ?_
    refine L.nil ?_
    refine W.ret ?_
    exact RetK.one _ (.bool true) rfl rfl (Ext.refl _) rfl
  ·
    have a3 : ¬ ((1048576 : Int) < (xs.length : Int)) := of_decide_eq_false q1
    refine W.skip ?_
    refine W.seq ?_
    refine W.region ?_
    refine L.v (o_move (v := (.slice p xs.length c)) rfl) ?_
    refine L.cons (op_call [(.slice p xs.length c)] Try.call12 rfl (toF32S p c xs hs (by omega))) ?_
    rintro _ s6 ⟨p4, c5, rfl, fs7⟩
    have ap8 : Apart (xs.length) (xs.length) p4 p := by simpa using Fsl.apart fs7 hs (fl_ne _)
    have hs9 := Sl.ext hs fs7.ext
    have ex10 := Ext.trans (Ext.refl σ) fs7.ext
    have mu11 := Fsl.mut fs7 (xs.length) (by simp)
    refine L.v (v := (.tuple #[(.float .f32 (laneF xs)), (.bool (laneB xs))])) (op_call [(.slice p4 xs.length c5)] Try.call24 rfl (specLane p4 c5 xs (Fsl.reads fs7))) ?_
    refine L.v (o_move (v := (.tuple #[(.float .f32 (laneF xs)), (.bool (laneB xs))])) rfl) ?_
    refine L.v (o_extract (vs := #[(.float .f32 (laneF xs)), (.bool (laneB xs))]) (v := (.float .f32 (laneF xs))) rfl rfl rfl) ?_
    refine L.v (o_extract (vs := #[(.float .f32 (laneF xs)), (.bool (laneB xs))]) (v := (.bool (laneB xs))) rfl rfl rfl) ?_
    refine L.v (o_assign (v := (.float .f32 (laneF xs))) rfl) ?_
    refine L.v (o_assign (v := (.bool (laneB xs))) rfl) ?_
    refine L.nil ?_
    refine W.seq ?_
    refine W.region ?_
    refine L.v (o_move (v := (.slice p xs.length c)) rfl) ?_
    refine L.cons (op_call [(.slice p xs.length c)] Try.call12 rfl (toF32S p c xs hs9 (by omega))) ?_
    rintro _ s14 ⟨p12, c13, rfl, fs15⟩
    have ap16 : Apart (xs.length) (xs.length) p12 p := by simpa using Fsl.apart fs15 hs9 (fl_ne _)
    have ap17 : Apart (xs.length) (xs.length) p12 p4 := by simpa using Fsl.apart fs15 (Fsl.reads fs7) (fl_ne _)
    have hs18 := Sl.ext hs9 fs15.ext
    have hs19 := Sl.ext (Fsl.reads fs7) fs15.ext
    have mu20 := Mut.ext mu11 fs15.ext
    have ex21 := Ext.trans ex10 fs15.ext
    have mu22 := Fsl.mut fs15 (xs.length) (by simp)
    refine L.v (o_assign (v := (.slice p12 xs.length c13)) rfl) ?_
    refine L.nil ?_
    refine W.seq ?_
    refine W.region ?_
    refine L.v (o_move (v := (.slice p12 xs.length c13)) rfl) ?_
    refine L.v (v := (.tuple #[(.float .f32 (laneF xs)), (.bool (laneB xs))])) (op_call [(.slice p12 xs.length c13)] Try.call25 rfl (implLane p12 c13 xs (Fsl.reads fs15))) ?_
    refine L.v (o_move (v := (.tuple #[(.float .f32 (laneF xs)), (.bool (laneB xs))])) rfl) ?_
    refine L.v (o_extract (vs := #[(.float .f32 (laneF xs)), (.bool (laneB xs))]) (v := (.float .f32 (laneF xs))) rfl rfl rfl) ?_
    refine L.v (o_extract (vs := #[(.float .f32 (laneF xs)), (.bool (laneB xs))]) (v := (.bool (laneB xs))) rfl rfl rfl) ?_
    refine L.v (o_assign (v := (.float .f32 (laneF xs))) rfl) ?_
    refine L.v (o_assign (v := (.bool (laneB xs))) rfl) ?_
    refine L.nil ?_
    refine W.seq ?_
    refine W.seq ?_
    refine W.region ?_
    refine L.v (o_move (v := (.float .f32 (laneF xs))) rfl) ?_
    refine L.v (o_cvFF (s := .f32) (d := .f64) (a := laneF xs) (by rw [Try.underlying23]; rfl) Try.underlying28 rfl (okw (laneF xs))) ?_
    refine L.v (o_move (v := (.float .f32 (laneF xs))) rfl) ?_
    refine L.v (o_cvFF (s := .f32) (d := .f64) (a := laneF xs) (by rw [Try.underlying23]; rfl) Try.underlying28 rfl (okw (laneF xs))) ?_
    refine L.v (v := (.bool true)) (op_call [(.float .f64 (cvt .f32 .f64 (laneF xs))), (.float .f64 (cvt .f32 .f64 (laneF xs)))] Try.call14 rfl (sameFloat_c (cvt .f32 .f64 (laneF xs)))) ?_
    refine L.v (o_not (b := true) (c := false) rfl rfl) ?_
    refine L.v (o_move (v := (.bool false)) rfl) ?_
    refine L.gv (j := 6) (d₁ := 30) (b := false) rfl rfl rfl rfl (o_move (v := (.bool (laneB xs))) rfl) ?_
    refine L.gv (j := 6) (d₁ := 30) (b := false) rfl rfl rfl rfl (o_move (v := (.bool (laneB xs))) rfl) ?_
    refine L.gv (j := 6) (d₁ := 30) (b := false) rfl rfl rfl rfl (o_bneq (a := laneB xs) (b := laneB xs) (c := false) Try.underlying4 rfl rfl (by simp)) ?_
    refine L.v (o_pickF (b := false) (v := (.bool false)) rfl rfl rfl) ?_
    refine L.nil ?_
    refine W.condF (b := false) rfl rfl ?_
    refine W.skip ?_
    refine W.seq ?_
    refine W.seq ?_
    refine W.region ?_
    refine L.v (o_move (v := (.slice p12 xs.length c13)) rfl) ?_
    refine L.v (o_move (v := (.slice p xs.length c)) rfl) ?_
    refine L.cons (op_call [(.slice p xs.length c)] Try.call12 rfl (toF32S p c xs hs18 (by omega))) ?_
    rintro _ s25 ⟨p23, c24, rfl, fs26⟩
    have ap27 : Apart (xs.length) (xs.length) p23 p := by simpa using Fsl.apart fs26 hs18 (fl_ne _)
    have ap28 : Apart (xs.length) (xs.length) p23 p4 := by simpa using Fsl.apart fs26 hs19 (fl_ne _)
    have ap29 : Apart (xs.length) (xs.length) p23 p12 := by simpa using Fsl.apart fs26 (Fsl.reads fs15) (fl_ne _)
    have hs30 := Sl.ext hs18 fs26.ext
    have hs31 := Sl.ext hs19 fs26.ext
    have mu32 := Mut.ext mu20 fs26.ext
    have hs33 := Sl.ext (Fsl.reads fs15) fs26.ext
    have mu34 := Mut.ext mu22 fs26.ext
    have ex35 := Ext.trans ex21 fs26.ext
    have mu36 := Fsl.mut fs26 (xs.length) (by simp)
    refine L.v (v := (.bool true)) (op_call [(.slice p12 xs.length c13), (.slice p23 xs.length c24)] Try.call15 rfl (eqF32S p12 p23 c13 c24 xs hs33 (Fsl.reads fs26) (by omega))) ?_
    refine L.v (o_not (b := true) (c := false) rfl rfl) ?_
    refine L.nil ?_
    refine W.condF (b := false) rfl rfl ?_
    refine W.skip ?_
    refine W.seq ?_
    refine W.region ?_
    refine L.v (o_assign (v := (.bool true)) rfl) ?_
    refine L.nil ?_
    refine W.ret ?_
    exact RetK.one _ (.bool true) rfl rfl (Ext.refl _) rfl

theorem specShared {w0 : World} {σ : Sg} (p : Option Addr) (c : Nat) (xs : List Nat) (hs : Sl σ 1 p (xs.map fl)) (n : Int) (hn : -9223372036854775808 ≤ n ∧ n ≤ 9223372036854775807) :
    FnV Try.prog w0 31 [(.slice p xs.length c), (.int .i64 n)] σ (laneW xs n) := by
  unfold FnV
  refine Fn.of_W 16 Try.func31 rfl Try.ntmps31 rfl ?_
  refine W.seq ?_
  refine W.region ?_
  refine L.v (o_assign (v := (.float .f32 0)) rfl) ?_
  refine L.v (o_assign (v := (.bool false)) rfl) ?_
  refine L.nil ?_
  refine W.seq ?_
  refine W.seq ?_
  refine W.region ?_
  refine L.v (o_move (v := (.slice p xs.length c)) rfl) ?_
  refine L.v (o_len (p := p) (n := xs.length) (c := c) Try.underlying22 rfl) ?_
  refine L.v (o_igtr (a := (xs.length : Int)) (b := 256) rfl rfl rfl) ?_
  refine L.v (o_move (v := (.bool (decide ((256 : Int) < (xs.length : Int))))) rfl) ?_
  rcases Bool.eq_false_or_eq_true (decide ((256 : Int) < (xs.length : Int))) with q1 | q1
  ·
    have a2 : (256 : Int) < (xs.length : Int) := of_decide_eq_true q1
    refine L.gF (j := 3) (d₁ := 9) (b := decide ((256 : Int) < (xs.length : Int))) rfl rfl rfl q1 ?_
    refine L.gF (j := 3) (d₁ := 9) (b := decide ((256 : Int) < (xs.length : Int))) rfl rfl rfl q1 ?_
    refine L.gF (j := 3) (d₁ := 9) (b := decide ((256 : Int) < (xs.length : Int))) rfl rfl rfl q1 ?_
    refine L.v (o_pickT (b := decide ((256 : Int) < (xs.length : Int))) (v := (.bool true)) rfl q1 rfl) ?_
    refine L.nil ?_
    refine W.condT (b := true) rfl rfl ?_
    refine W.seq ?_
    refine W.region ?_
    refine L.v (o_assign (v := (.float .f32 0)) rfl) ?_
    refine L.v (o_assign (v := (.bool false)) rfl) ?_
    refine L.nil ?_
    refine W.ret ?_
    exact RetK.two σ (.float .f32 0) (.bool false) rfl rfl rfl rfl rfl (Ext.refl _) ⟨by first | (rw [laneW_yes (by omega) (by omega)]) | (rw [laneW_in (by omega)]) | (rw [laneW_no (by omega)]), rfl⟩
  ·
    have a3 : ¬ ((256 : Int) < (xs.length : Int)) := of_decide_eq_false q1
    refine L.gv (j := 3) (d₁ := 9) (b := decide ((256 : Int) < (xs.length : Int))) rfl rfl rfl q1 (o_move (v := (.int .i64 n)) rfl) ?_
    refine L.gv (j := 3) (d₁ := 9) (b := decide ((256 : Int) < (xs.length : Int))) rfl rfl rfl q1 (v := (.bool (decide ((1 : Int) ≤ n ∧ (n : Int) ≤ 8)))) (op_call [(.int .i64 n), (.int .i64 1), (.int .i64 8)] Try.call41 rfl (withinS n 1 8)) ?_
    refine L.gv (j := 3) (d₁ := 9) (b := decide ((256 : Int) < (xs.length : Int))) rfl rfl rfl q1 (o_not (b := decide ((1 : Int) ≤ n ∧ (n : Int) ≤ 8)) rfl rfl) ?_
    refine L.v (o_pickF (b := decide ((256 : Int) < (xs.length : Int))) (v := (.bool (!(decide ((1 : Int) ≤ n ∧ (n : Int) ≤ 8))))) rfl q1 rfl) ?_
    refine L.nil ?_
    refine W.cond (b := !(decide ((1 : Int) ≤ n ∧ (n : Int) ≤ 8))) rfl (fun q4 => ?_) (fun q4 => ?_)
    ·
      have a5 : ¬ ((1 : Int) ≤ n ∧ (n : Int) ≤ 8) := of_decide_eq_false (bn_t q4)
      refine W.seq ?_
      refine W.region ?_
      refine L.v (o_assign (v := (.float .f32 0)) rfl) ?_
      refine L.v (o_assign (v := (.bool false)) rfl) ?_
      refine L.nil ?_
      refine W.ret ?_
      exact RetK.two σ (.float .f32 0) (.bool false) rfl rfl rfl rfl rfl (Ext.refl _) ⟨by first | (rw [laneW_yes (by omega) (by omega)]) | (rw [laneW_in (by omega)]) | (rw [laneW_no (by omega)]), rfl⟩
    ·
      have a6 : (1 : Int) ≤ n ∧ (n : Int) ≤ 8 := of_decide_eq_true (bn_f q4)
      refine W.skip ?_
      refine W.seq ?_
      refine W.region ?_
      refine L.v (o_move (v := (.slice p xs.length c)) rfl) ?_
      refine L.v (v := (.float .f32 (laneSum xs))) (op_call [(.slice p xs.length c)] Try.call34 rfl (specSum p c xs hs (by omega))) ?_
      refine L.v (o_assign (v := (.float .f32 (laneSum xs))) rfl) ?_
      refine L.v (o_assign (v := (.bool true)) rfl) ?_
      refine L.nil ?_
      refine W.ret ?_
      exact RetK.two σ (.float .f32 (laneSum xs)) (.bool true) rfl rfl rfl rfl rfl (Ext.refl _) ⟨by first | (rw [laneW_yes (by omega) (by omega)]) | (rw [laneW_in (by omega)]) | (rw [laneW_no (by omega)]), rfl⟩

theorem implShared {w0 : World} {σ : Sg} (p : Option Addr) (c : Nat) (xs : List Nat) (hs : Sl σ 1 p (xs.map fl)) (n : Int) (hn : -9223372036854775808 ≤ n ∧ n ≤ 9223372036854775807) :
    FnV Try.prog w0 32 [(.slice p xs.length c), (.int .i64 n)] σ (laneW xs n) := by
  unfold FnV
  refine Fn.of_W 13 Try.func32 rfl Try.ntmps32 rfl ?_
  refine W.seq ?_
  refine W.region ?_
  refine L.v (o_assign (v := (.float .f32 0)) rfl) ?_
  refine L.v (o_assign (v := (.bool false)) rfl) ?_
  refine L.nil ?_
  refine W.seq ?_
  refine W.seq ?_
  refine W.region ?_
  refine L.v (o_move (v := (.int .i64 n)) rfl) ?_
  refine L.v (v := (.bool (decide ((1 : Int) ≤ n ∧ (n : Int) ≤ 8)))) (op_call [(.int .i64 n), (.int .i64 1), (.int .i64 8)] Try.call42 rfl (withinI n 1 8)) ?_
  refine L.v (o_not (b := decide ((1 : Int) ≤ n ∧ (n : Int) ≤ 8)) rfl rfl) ?_
  refine L.nil ?_
  refine W.cond (b := !(decide ((1 : Int) ≤ n ∧ (n : Int) ≤ 8))) rfl (fun q1 => ?_) (fun q1 => ?_)
  ·
    have a2 : ¬ ((1 : Int) ≤ n ∧ (n : Int) ≤ 8) := of_decide_eq_false (bn_t q1)
    refine W.seq ?_
    refine W.region ?_
    refine L.v (o_assign (v := (.float .f32 0)) rfl) ?_
    refine L.v (o_assign (v := (.bool false)) rfl) ?_
    refine L.nil ?_
    refine W.ret ?_
    exact RetK.two σ (.float .f32 0) (.bool false) rfl rfl rfl rfl rfl (Ext.refl _) ⟨by first | (rw [laneW_yes (by omega) (by omega)]) | (rw [laneW_in (by omega)]) | (rw [laneW_no (by omega)]), rfl⟩
  ·
    have a3 : (1 : Int) ≤ n ∧ (n : Int) ≤ 8 := of_decide_eq_true (bn_f q1)
    refine W.skip ?_
    refine W.seq ?_
    refine W.region ?_
    refine L.v (o_move (v := (.slice p xs.length c)) rfl) ?_
    refine L.v (v := (.tuple #[(.float .f32 (laneF xs)), (.bool (laneB xs))])) (op_call [(.slice p xs.length c)] Try.call25 rfl (implLane p c xs hs)) ?_
    refine L.v (o_extract (vs := #[(.float .f32 (laneF xs)), (.bool (laneB xs))]) (v := (.float .f32 (laneF xs))) rfl rfl rfl) ?_
    refine L.v (o_extract (vs := #[(.float .f32 (laneF xs)), (.bool (laneB xs))]) (v := (.bool (laneB xs))) rfl rfl rfl) ?_
    refine L.v (o_assign (v := (.float .f32 (laneF xs))) rfl) ?_
    refine L.v (o_assign (v := (.bool (laneB xs))) rfl) ?_
    refine L.nil ?_
    refine W.ret ?_
    exact RetK.two σ (.float .f32 (laneF xs)) (.bool (laneB xs)) rfl rfl rfl rfl rfl (Ext.refl _) ⟨by first | (rw [laneW_yes (by omega) (by omega)]) | (rw [laneW_in (by omega)]) | (rw [laneW_no (by omega)]), rfl⟩

theorem lawShared {w0 : World} {σ : Sg} (p : Option Addr) (c : Nat) (xs : List Nat) (hs : Sl σ 1 p (xs.map fl)) (n : Int) (hn : -9223372036854775808 ≤ n ∧ n ≤ 9223372036854775807) :
    Fn Try.prog w0 10 [(.slice p xs.length c), (.int .i64 n)] σ (fun u _ => u = .bool true) := by
  refine Fn.of_W 44 Try.func10 rfl Try.ntmps10 rfl ?_
  refine W.seq ?_
  refine W.region ?_
  refine L.v (o_assign (v := (.bool false)) rfl) ?_
  refine L.nil ?_
  refine W.seq ?_
  refine W.seq ?_
  refine W.region ?_
  refine L.v (o_move (v := (.slice p xs.length c)) rfl) ?_
  refine L.v (o_len (p := p) (n := xs.length) (c := c) Try.underlying22 rfl) ?_
  refine L.v (o_igtr (a := (xs.length : Int)) (b := 1048576) rfl rfl rfl) ?_
  refine L.nil ?_
  refine W.cond (b := decide ((1048576 : Int) < (xs.length : Int))) rfl (fun q1 => ?_) (fun q1 => ?_)
  ·
    have a2 : (1048576 : Int) < (xs.length : Int) := of_decide_eq_true q1
    refine W.seq ?_
    refine W.region ?_
    refine L.v (o_assign (v := (.bool true)) rfl) ?_
    refine L.nil ?_
    refine W.ret ?_
    exact RetK.one _ (.bool true) rfl rfl (Ext.refl _) rfl
  ·
    have a3 : ¬ ((1048576 : Int) < (xs.length : Int)) := of_decide_eq_false q1
    refine W.skip ?_
    refine W.seq ?_
    refine W.region ?_
    refine L.v (o_move (v := (.slice p xs.length c)) rfl) ?_
    refine L.cons (op_call [(.slice p xs.length c)] Try.call12 rfl (toF32S p c xs hs (by omega))) ?_
    rintro _ s6 ⟨p4, c5, rfl, fs7⟩
    have ap8 : Apart (xs.length) (xs.length) p4 p := by simpa using Fsl.apart fs7 hs (fl_ne _)
    have hs9 := Sl.ext hs fs7.ext
    have ex10 := Ext.trans (Ext.refl σ) fs7.ext
    have mu11 := Fsl.mut fs7 (xs.length) (by simp)
    refine L.v (o_move (v := (.int .i64 n)) rfl) ?_
    refine L.v (v := (.tuple #[(.float .f32 (laneWF xs n)), (.bool (laneWB xs n))])) (op_call [(.slice p4 xs.length c5), (.int .i64 n)] Try.call31 rfl (specShared p4 c5 xs (Fsl.reads fs7) n hn)) ?_
    refine L.v (o_move (v := (.tuple #[(.float .f32 (laneWF xs n)), (.bool (laneWB xs n))])) rfl) ?_
    refine L.v (o_extract (vs := #[(.float .f32 (laneWF xs n)), (.bool (laneWB xs n))]) (v := (.float .f32 (laneWF xs n))) rfl rfl rfl) ?_
    refine L.v (o_extract (vs := #[(.float .f32 (laneWF xs n)), (.bool (laneWB xs n))]) (v := (.bool (laneWB xs n))) rfl rfl rfl) ?_
    refine L.v (o_assign (v := (.float .f32 (laneWF xs n))) rfl) ?_
    refine L.v (o_assign (v := (.bool (laneWB xs n))) rfl) ?_
    refine L.nil ?_
    refine W.seq ?_
    refine W.region ?_
    refine L.v (o_move (v := (.slice p xs.length c)) rfl) ?_
    refine L.cons (op_call [(.slice p xs.length c)] Try.call12 rfl (toF32S p c xs hs9 (by omega))) ?_
    rintro _ s14 ⟨p12, c13, rfl, fs15⟩
    have ap16 : Apart (xs.length) (xs.length) p12 p := by simpa using Fsl.apart fs15 hs9 (fl_ne _)
    have ap17 : Apart (xs.length) (xs.length) p12 p4 := by simpa using Fsl.apart fs15 (Fsl.reads fs7) (fl_ne _)
    have hs18 := Sl.ext hs9 fs15.ext
    have hs19 := Sl.ext (Fsl.reads fs7) fs15.ext
    have mu20 := Mut.ext mu11 fs15.ext
    have ex21 := Ext.trans ex10 fs15.ext
    have mu22 := Fsl.mut fs15 (xs.length) (by simp)
    refine L.v (o_assign (v := (.slice p12 xs.length c13)) rfl) ?_
    refine L.nil ?_
    refine W.seq ?_
    refine W.region ?_
    refine L.v (o_move (v := (.slice p12 xs.length c13)) rfl) ?_
    refine L.v (o_move (v := (.int .i64 n)) rfl) ?_
    refine L.v (v := (.tuple #[(.float .f32 (laneWF xs n)), (.bool (laneWB xs n))])) (op_call [(.slice p12 xs.length c13), (.int .i64 n)] Try.call32 rfl (implShared p12 c13 xs (Fsl.reads fs15) n hn)) ?_
    refine L.v (o_move (v := (.tuple #[(.float .f32 (laneWF xs n)), (.bool (laneWB xs n))])) rfl) ?_
    refine L.v (o_extract (vs := #[(.float .f32 (laneWF xs n)), (.bool (laneWB xs n))]) (v := (.float .f32 (laneWF xs n))) rfl rfl rfl) ?_
    refine L.v (o_extract (vs := #[(.float .f32 (laneWF xs n)), (.bool (laneWB xs n))]) (v := (.bool (laneWB xs n))) rfl rfl rfl) ?_
    refine L.v (o_assign (v := (.float .f32 (laneWF xs n))) rfl) ?_
    refine L.v (o_assign (v := (.bool (laneWB xs n))) rfl) ?_
    refine L.nil ?_
    refine W.seq ?_
    refine W.seq ?_
    refine W.region ?_
    refine L.v (o_move (v := (.float .f32 (laneWF xs n))) rfl) ?_
    refine L.v (o_cvFF (s := .f32) (d := .f64) (a := laneWF xs n) (by rw [Try.underlying23]; rfl) Try.underlying28 rfl (okw (laneWF xs n))) ?_
    refine L.v (o_move (v := (.float .f32 (laneWF xs n))) rfl) ?_
    refine L.v (o_cvFF (s := .f32) (d := .f64) (a := laneWF xs n) (by rw [Try.underlying23]; rfl) Try.underlying28 rfl (okw (laneWF xs n))) ?_
    refine L.v (v := (.bool true)) (op_call [(.float .f64 (cvt .f32 .f64 (laneWF xs n))), (.float .f64 (cvt .f32 .f64 (laneWF xs n)))] Try.call14 rfl (sameFloat_c (cvt .f32 .f64 (laneWF xs n)))) ?_
    refine L.v (o_not (b := true) (c := false) rfl rfl) ?_
    refine L.v (o_move (v := (.bool false)) rfl) ?_
    refine L.gv (j := 6) (d₁ := 34) (b := false) rfl rfl rfl rfl (o_move (v := (.bool (laneWB xs n))) rfl) ?_
    refine L.gv (j := 6) (d₁ := 34) (b := false) rfl rfl rfl rfl (o_move (v := (.bool (laneWB xs n))) rfl) ?_
    refine L.gv (j := 6) (d₁ := 34) (b := false) rfl rfl rfl rfl (o_bneq (a := laneWB xs n) (b := laneWB xs n) (c := false) Try.underlying4 rfl rfl (by simp)) ?_
    refine L.v (o_pickF (b := false) (v := (.bool false)) rfl rfl rfl) ?_
    refine L.nil ?_
    refine W.condF (b := false) rfl rfl ?_
    refine W.skip ?_
    refine W.seq ?_
    refine W.seq ?_
    refine W.region ?_
    refine L.v (o_move (v := (.slice p12 xs.length c13)) rfl) ?_
    refine L.v (o_move (v := (.slice p xs.length c)) rfl) ?_
    refine L.cons (op_call [(.slice p xs.length c)] Try.call12 rfl (toF32S p c xs hs18 (by omega))) ?_
    rintro _ s25 ⟨p23, c24, rfl, fs26⟩
    have ap27 : Apart (xs.length) (xs.length) p23 p := by simpa using Fsl.apart fs26 hs18 (fl_ne _)
    have ap28 : Apart (xs.length) (xs.length) p23 p4 := by simpa using Fsl.apart fs26 hs19 (fl_ne _)
    have ap29 : Apart (xs.length) (xs.length) p23 p12 := by simpa using Fsl.apart fs26 (Fsl.reads fs15) (fl_ne _)
    have hs30 := Sl.ext hs18 fs26.ext
    have hs31 := Sl.ext hs19 fs26.ext
    have mu32 := Mut.ext mu20 fs26.ext
    have hs33 := Sl.ext (Fsl.reads fs15) fs26.ext
    have mu34 := Mut.ext mu22 fs26.ext
    have ex35 := Ext.trans ex21 fs26.ext
    have mu36 := Fsl.mut fs26 (xs.length) (by simp)
    refine L.v (v := (.bool true)) (op_call [(.slice p12 xs.length c13), (.slice p23 xs.length c24)] Try.call15 rfl (eqF32S p12 p23 c13 c24 xs hs33 (Fsl.reads fs26) (by omega))) ?_
    refine L.v (o_not (b := true) (c := false) rfl rfl) ?_
    refine L.nil ?_
    refine W.condF (b := false) rfl rfl ?_
    refine W.skip ?_
    refine W.seq ?_
    refine W.region ?_
    refine L.v (o_assign (v := (.bool true)) rfl) ?_
    refine L.nil ?_
    refine W.ret ?_
    exact RetK.one _ (.bool true) rfl rfl (Ext.refl _) rfl

end Go.Proofs.Ytakeanehgfbbaaa.En
