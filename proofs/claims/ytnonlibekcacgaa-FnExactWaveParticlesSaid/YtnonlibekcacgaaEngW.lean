/- Engine, part W: a cut between two pieces of code, where branches meet again. -/
import Derived.Test.YtnonlibekcacgaaEngT
namespace Go.Proofs.Ytnonlibekcacgaa.En
open Go
set_option linter.unusedVariables false
theorem W.cut {P : Program} {w0 : World} {N : Nat} {Q : Exit → Fr → Sg → Prop} {t : Fr} {σ : Sg} {x y : Code} (K : Fr → Sg → Prop) (h : W P w0 N x (thenE K Q) t σ) (hk : ∀ t σ, K t σ → W P w0 N y Q t σ) : W P w0 N (.seq x y) Q t σ :=
  W.seq (W.mono h fun e t σ h' => by
    cases e with
    | normal => exact hk t σ h'
    | _ => exact h')
/-- where branches meet again -/
theorem W.join {P : Program} {w0 : World} {N : Nat} {Q : Exit → Fr → Sg → Prop} {t : Fr} {σ : Sg} {x : Code} (K : Fr → Sg → Prop) (h : W P w0 N x (thenE K Q) t σ) (hk : ∀ t σ, K t σ → Q .normal t σ) : W P w0 N x Q t σ :=
  W.mono h fun e t σ h' => by
    cases e with
    | normal => exact hk t σ h'
    | _ => exact h'
end Go.Proofs.Ytnonlibekcacgaa.En
