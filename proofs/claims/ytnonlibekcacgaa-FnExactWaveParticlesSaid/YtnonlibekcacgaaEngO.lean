/- Engine, part O: a call of a function that the model stands in for, at a number that is no NaN; bits of whole numbers. -/
import Derived.Test.YtnonlibekcacgaaEngN
import Derived.Laws.Externs
namespace Go.Proofs.Ytnonlibekcacgaa.En
open Go
set_option linter.unusedVariables false
section
variable {P : Program} {w0 : World} {N : Nat} {t : Fr} {σ : Sg} {ty : TypeId}
theorem o_ext1 {f : FuncId} {x : Operand} {tys : Array TypeId} {fn : Func} {e : Array Value → Sem Value} {v r : Value} (hf : P.funcs[f]? = some fn) (hname : (fn.name == "runtime.NumGoroutine") = false)
    (hb : fn.body.isNone = true) (hn : Extern.findNext fn = .none) (he : Extern.find fn = some e) (hx : ev N t x = v) (hv : ∀ u, norm u = norm v → u = v) (hr : ∀ w, (e #[v]).run P w = .ok r w) :
    OpV P w0 N (.call ⟨.value (.func f), #[x], tys⟩) ty t σ r :=
  OpV.pure fun ac w hrel hs => by
    have hu : ac.eval x = v := hv _ (by rw [hrel.eval, hx])
    have hc : (callFunc f #[v]).run P w = .ok (.value r) w := by rw [run_callFunc_extern hf hname hb hn he, hr]; rfl
    have hm : (#[x] : Array Operand).map ac.eval = #[v] := by simp [hu]
    have hg : (execOp ac.eval ⟨.none, .call ⟨.value (.func f), #[x], tys⟩, ty, "", #[], .none⟩).run P w = (callFunc f ((#[x] : Array Operand).map ac.eval)).run P w := by
      simp [execOp, resolve, Act.eval, Deferred.ofValue, invoke]
    exact ⟨r, by rw [hg, hm, hc], rfl⟩
theorem norm_exact {k : FloatKind} {a : Nat} (h : isnan k a = false) : ∀ u, norm u = norm (.float k a) → u = .float k a := fun u hu => by
  obtain ⟨a', rfl, ca⟩ := sim_float hu
  rcases cn_eq ca with h1 | ⟨_, h1⟩
  · rw [h1]
  · rw [h] at h1; cases h1
theorem norm_exact_int {k : IntKind} {a : Int} : ∀ u, norm u = norm (.int k a) → u = .int k a := fun u hu => sim_int hu
theorem o_iandNot {x y : Operand} {T U : TypeId} {k : IntKind} {a b c : Int} (hx : ev N t x = .int k a) (hy : ev N t y = .int k b) (hc : k.wrap ((BitVec.ofInt k.bits a &&& ~~~ BitVec.ofInt k.bits b).toNat) = c) : OpV P w0 N (.binOp .andNot T x y U) ty t σ (.int k c) :=
  OpV.pure fun ac w hr hs => ⟨.int k c, by rw [← hc]; simp [execOp, eqGuard, binOp, Op.intBits, hr.int hx, hr.int hy], rfl⟩
end
end Go.Proofs.Ytnonlibekcacgaa.En
