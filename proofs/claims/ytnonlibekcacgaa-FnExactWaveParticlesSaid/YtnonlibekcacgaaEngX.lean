/- Engine, part X: structs built from their fields; numbers that mark. -/
import Derived.Test.YtnonlibekcacgaaEngW
import Derived.Laws.Tables
namespace Go.Proofs.Ytnonlibekcacgaa.En
open Go
set_option linter.unusedVariables false
section
variable {P : Program} {w0 : World} {N : Nat} {t : Fr} {σ : Sg} {ty : TypeId}
theorem o_build_cf {T : TypeId} {x y : Operand} {i j : Nat} {k l : FloatKind} {a b c : Nat} {rest : List Value} (hb : ∀ a b c, P.built T [(i, .complex k a b), (j, .float l c)] = some (.complex k a b :: .float l c :: rest).toArray)
    (hx : ev N t x = .complex k a b) (hy : ev N t y = .float l c) : OpV P w0 N (.build T #[(i, x), (j, y)]) ty t σ (.agg (.complex k a b :: .float l c :: rest).toArray) :=
  OpV.pure fun ac w hr hs => by
    obtain ⟨a', b', h1, ca, cb⟩ := hr.complex hx
    obtain ⟨c', h2, cc⟩ := hr.float hy
    refine ⟨.agg (.complex k a' b' :: .float l c' :: rest).toArray, ?_, ?_⟩
    · have e : ((#[(i, x), (j, y)] : Array (Nat × Operand)).map fun p => (p.1, ac.eval p.2)) = #[(i, .complex k a' b'), (j, .float l c')] := by simp [h1, h2]
      have := run_build (P := P) w T #[(i, .complex k a' b'), (j, .float l c')] _ (hb a' b' c')
      simp [execOp, e, this]
    · simp [norm_agg, n0, ca, cb, cc]
theorem o_build_ccff {T : TypeId} {x y u v : Operand} {i j m n : Nat} {k k2 l l2 : FloatKind} {a b a2 b2 c c2 : Nat} (hb : ∀ a b a2 b2 c c2, P.built T [(i, .complex k a b), (j, .complex k2 a2 b2), (m, .float l c), (n, .float l2 c2)] = some #[.complex k a b, .complex k2 a2 b2, .float l c, .float l2 c2])
    (hx : ev N t x = .complex k a b) (hy : ev N t y = .complex k2 a2 b2) (hu : ev N t u = .float l c) (hv : ev N t v = .float l2 c2) :
    OpV P w0 N (.build T #[(i, x), (j, y), (m, u), (n, v)]) ty t σ (.agg #[.complex k a b, .complex k2 a2 b2, .float l c, .float l2 c2]) :=
  OpV.pure fun ac w hr hs => by
    obtain ⟨a', b', h1, ca, cb⟩ := hr.complex hx
    obtain ⟨a2', b2', h2, ca2, cb2⟩ := hr.complex hy
    obtain ⟨c', h3, cc⟩ := hr.float hu
    obtain ⟨c2', h4, cc2⟩ := hr.float hv
    refine ⟨.agg #[.complex k a' b', .complex k2 a2' b2', .float l c', .float l2 c2'], ?_, ?_⟩
    · have e : ((#[(i, x), (j, y), (m, u), (n, v)] : Array (Nat × Operand)).map fun p => (p.1, ac.eval p.2)) = #[(i, .complex k a' b'), (j, .complex k2 a2' b2'), (m, .float l c'), (n, .float l2 c2')] := by simp [h1, h2, h3, h4]
      have := run_build (P := P) w T #[(i, .complex k a' b'), (j, .complex k2 a2' b2'), (m, .float l c'), (n, .float l2 c2')] _ (hb a' b' a2' b2' c' c2')
      simp [execOp, e, this]
    · simp [norm_agg, n0, ca, cb, ca2, cb2, cc, cc2]
end
end Go.Proofs.Ytnonlibekcacgaa.En
