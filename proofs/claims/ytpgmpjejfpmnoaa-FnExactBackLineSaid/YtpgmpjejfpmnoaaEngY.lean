/- Engine, part Y: an append of nothing. -/
import Derived.Test.YtpgmpjejfpmnoaaEngU
namespace Go.Proofs.Ytpgmpjejfpmnoaa.En
open Go
set_option linter.unusedVariables false
section
variable {P : Program} {w0 : World} {N : Nat} {t : Fr} {σ : Sg} {ty : TypeId}
theorem run_append0 {w : World} {T e : TypeId} {info : TypeInfo} {a b : Addr} {c : Nat} (hu : P.underlying T = some (.slice e)) (hi : P.info? e = some info) :
    (Builtin.append_ #[T, T] ty #[.slice (some a) 0 0, .slice (some b) 0 c]).run P w = .ok (.slice (some a) 0 0) w := by
  have e1 : (Builtin.lenOf (.slice (some b) 0 c)) = pure 0 := rfl
  simp [Builtin.append_, run_underlying hu, sizeOf, typeInfo, hi, e1, Builtin.firstCells, loadCells, loadCellsFrom, storeCells]
theorem o_append0 {s x : Operand} {T e : TypeId} {info : TypeInfo} {a b : Addr} {c : Nat} (hu : P.underlying T = some (.slice e)) (hi : P.info? e = some info) (hs : ev N t s = .slice (some a) 0 0) (hx : ev N t x = .slice (some b) 0 c) :
    OpV P w0 N (.call ⟨.builtin .append, #[s, x], #[T, T]⟩) ty t σ (.slice (some a) 0 0) :=
  OpV.pure fun ac w hr hsat => by
    refine ⟨_, ?_, rfl⟩
    have h := run_append0 (P := P) (ty := ty) (w := w) (a := a) (b := b) (c := c) hu hi
    simp only [execOp, resolve, invoke, builtin, Sem.run_bind, Sem.run_pure, Result.andThen_ok, List.map_toArray, List.map_cons, List.map_nil, hr.slice hs, hr.slice hx, h]
end
end Go.Proofs.Ytpgmpjejfpmnoaa.En
