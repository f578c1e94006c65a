/- Engine, part M: a struct of two whole numbers that came in by value; boxes that are written to; products of small numbers. -/
import Derived.Test.YtnonlibekcacgaaEngK
import Derived.Deep.Fields
namespace Go.Proofs.Ytnonlibekcacgaa.En
open Go
set_option linter.unusedVariables false
theorem Ext.none {σ s : Sg} {b : Nat} (h : Ext σ s) (hb : s b = .none) : σ b = .none := by
  cases hx : σ b with
  | none => rfl
  | some x => rw [h b x hx] at hb; cases hb
theorem ne_of_free {s : Sg} {a b : Nat} {x} (ha : s a = some x) (hb : s b = .none) : a ≠ b := fun e => by rw [e, hb] at ha; cases ha
theorem sg_other {s : Sg} {a b : Nat} {x y} (ha : s a = some x) (h : a ≠ b) : sg s b y a = some x := by rw [sg_ne h]; exact ha
theorem mul_bd {a b : Int} (ha : 4 ≤ a ∧ a ≤ 16) (hb : 4 ≤ b ∧ b ≤ 16) : 16 ≤ a * b ∧ a * b ≤ 256 := by
  obtain ⟨m, rfl⟩ : ∃ m : Nat, a = m := ⟨a.toNat, by omega⟩
  obtain ⟨n, rfl⟩ : ∃ n : Nat, b = n := ⟨b.toNat, by omega⟩
  have h1 := Nat.mul_le_mul (show 4 ≤ m by omega) (show 4 ≤ n by omega)
  have h2 := Nat.mul_le_mul (show m ≤ 16 by omega) (show n ≤ 16 by omega)
  rw [← Int.natCast_mul]
  omega
theorem o_slnil {P : Program} {w0 : World} {N : Nat} {t : Fr} {σ : Sg} {ty : TypeId} {x y : Operand} {T e U : TypeId} {b off n c : Nat} (hu : P.underlying T = some (.slice e)) (hx : ev N t x = .slice (some ⟨b, off, .none⟩) n c) (hy : ev N t y = .slice .none 0 0) :
    OpV P w0 N (.binOp .eql T x y U) ty t σ (.bool false) :=
  OpV.pure fun ac w hr hs => by
    refine ⟨.bool false, ?_, rfl⟩
    have e1 : binOp .eql T (.slice (some ⟨b, off, .none⟩) n c) (.slice .none 0 0) = (do pure (.bool (← Op.equal T (.slice (some ⟨b, off, .none⟩) n c) (.slice .none 0 0)))) := rfl
    have e2 : ∀ d, (Op.equalIn (d + 1) T (.slice (some ⟨b, off, .none⟩) n c) (.slice .none 0 0)).run P w = .ok false w := fun d => by simp [Op.equalIn, run_underlying hu]
    have e3 : (Op.equal T (.slice (some ⟨b, off, .none⟩) n c) (.slice .none 0 0)).run P w = .ok false w := e2 9999
    simp only [execOp, hr.slice hx, hr.slice hy, eqGuard, e1]
    simp [e3]
theorem o_slice2m {P : Program} {w0 : World} {N : Nat} {t : Fr} {σ : Sg} {ty : TypeId} {x lo hi : Operand} {T e : TypeId} {k1 k2 : IntKind} {b off n c k : Nat} (l h m : Nat) (hu : P.underlying T = some (.slice e)) (hk : ∀ w, (sizeOf e).run P w = .ok k w) (hx : ev N t x = .slice (some ⟨b, off, .none⟩) n c) (hl : ev N t lo = .int k1 l) (hh : ev N t hi = .int k2 h)
    (h1 : l ≤ h) (h2 : h ≤ c) (h3 : l < c) (hm : h - l = m) : OpV P w0 N (.slice T x (some lo) (some hi) .none) ty t σ (.slice (some ⟨b, off + l * k, .none⟩) m (c - l)) := by
  subst hm
  exact o_slice2 l h hu hk hx hl hh h1 h2 h3
def sub (xs : List Nat) (l m : Nat) : List Nat := (List.range m).map fun j => xs.getD (l + j) 0
theorem sub_len (xs : List Nat) (l m : Nat) : (sub xs l m).length = m := by simp [sub]
theorem Sl.sub {σ : Sg} {b off : Nat} {xs : List Nat} (h : Sl σ 1 (some ⟨b, off, .none⟩) (xs.map fl)) (l m : Nat) (hl : l + m ≤ xs.length) : Rds σ b (off + l * 1) ((En.sub xs l m).map (Value.float .f32)) := by
  intro j v hj
  have hjm : j < m := by
    have := (List.getElem?_eq_some_iff.1 hj).1
    simpa [En.sub] using this
  have hv : v = .float .f32 (xs.getD (l + j) 0) := by
    simp [En.sub, hjm] at hj
    exact hj.symm
  subst hv
  have := Rds.fst (h.at (l + j) (by omega) 0)
  rwa [show off + (l + j) * 1 = off + l * 1 + j by omega] at this
section
open Go.ChangeShapes Go.WideShapes
variable {H : Type} {enc : TypeId × Value → H} {P : Program} {W : World} {spare : Nat → Bool} {held : Bool}
theorem trod_intV {e : TypeId} {k : IntKind} {n : Nat} {v : Value} {x} (he : P.underlying e = some (.int k)) (h : DataW.trod enc P W 0 spare held n e [v] = some x) : ∃ b, v = .int k b := by
  cases n with
  | zero => simp [DataW.trod] at h
  | succ n =>
    simp only [DataW.trod, he] at h
    cases v <;> simp at h
    rename_i k' b
    exact ⟨b, by rw [h.1.1]⟩
/-- a struct of two whole numbers that came in by value -/
theorem arg_agg2i {r : Reach} {b0 : Nat} {t : TypeId} {f0 f1 : Field} {v : Value} {d : DataW H} {ps : List MemPlace} (hs : P.underlying t = some (.struct #[f0, f1])) (hC : P.cellsOf t = 2)
    (o0 : f0.offset = 0) (o1 : f1.offset = 1) (c0 : P.cellsOf f0.type = 1) (c1 : P.cellsOf f1.type = 1) (h0 : P.underlying f0.type = some (.int .i64)) (h1 : P.underlying f1.type = some (.int .i64))
    (hv : Value.okWide P W r b0 t v) (h : DataW.Trod enc P W 0 spare held t v d ps) : ∃ x y, v = .agg #[.int .i64 x, .int .i64 y] := by
  obtain ⟨cs, rfl, hsz⟩ := okWide_struct hs hv
  obtain ⟨a0, a1, rfl⟩ : ∃ a0 a1, cs = #[a0, a1] := by
    rw [hC] at hsz
    obtain ⟨l⟩ := cs
    match l, hsz with
    | [a0, a1], _ => exact ⟨a0, a1, rfl⟩
  obtain ⟨fuel, hf⟩ := h
  obtain ⟨xs, n, _, _, hl, hlen, hg⟩ := DataW.trod_struct hs hf
  match xs, hlen with
  | [y0, y1], _ =>
    have g0 := hg 0 f0 rfl
    have g1 := hg 1 f1 rfl
    simp only [Value.cells, o0, c0, o1, c1, List.drop_zero, List.drop_succ_cons, List.take_succ_cons, List.take_zero] at g0 g1
    obtain ⟨x, rfl⟩ := trod_intV h0 (by simpa using g0)
    obtain ⟨y, rfl⟩ := trod_intV h1 (by simpa using g1)
    exact ⟨x, y, rfl⟩
end
end Go.Proofs.Ytnonlibekcacgaa.En
