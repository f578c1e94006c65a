/- Engine, part T: calls of a value of a function's type; slices of structs built in place; a draw in an order of ours; the absolute value. -/
import Derived.Test.YtnonlibekcacgaaEngO
import Derived.Test.YtnonlibekcacgaaEngS
namespace Go.Proofs.Ytnonlibekcacgaa.En
open Go
set_option linter.unusedVariables false
section
variable {P : Program} {w0 : World} {N : Nat} {t : Fr} {σ : Sg} {ty : TypeId}
theorem op_callv {f : FuncId} {x : Operand} {xs : Array Operand} {tys : Array TypeId} {K : Value → Sg → Prop} (args : List Value) (hf : ev N t x = .func (.func f) #[] #[])
    (hc : ∀ (args : Array Value) (w : World), (callFunc f args).run P w = .ok (.enter f args) w) (hx : xs.toList.map (ev N t) = args) (h : Fn P w0 f args σ K) :
    OpE P w0 N (.call ⟨.value x, xs, tys⟩) ty t σ K := by
  intro a w hr hs
  have hv : a.eval x = .func (.func f) #[] #[] := sim_func (by rw [hr.eval, hf])
  have hrun : (execOp a.eval ⟨.none, .call ⟨.value x, xs, tys⟩, ty, "", #[], .none⟩).run P w = .ok (.enter f (xs.map a.eval)) w := by
    simp [execOp, resolve, hv, Deferred.ofValue, invoke, hc]
  rw [hrun]
  refine h _ _ ?_ hs
  rw [← hx]
  simp only [Array.toList_map, List.map_map]
  exact List.map_congr_left fun x _ => hr.eval x
theorem o_buildSlice0 {T e : TypeId} {info : TypeInfo} (hu : P.underlying T = some (.slice e)) (hi : P.info? e = some info) :
    OpE P w0 N (.buildSlice T 0 #[]) ty t σ (NewB w0 σ e [] fun b => .slice (some ⟨b, 0, .none⟩) 0 0) := by
  intro a w hr hs
  have hrun : (execOp a.eval ⟨.none, .buildSlice T 0 #[], ty, "", #[], .none⟩).run P w = .ok (.value (.slice (some ⟨w.heap.size, 0, .none⟩) 0 0)) { w with heap := w.heap.push (.cells #[] e) } := by
    simp [execOp, Instr.buildSlice, run_underlying hu, sizeOf, typeInfo, hi, Instr.fill, newRow, newObj, Sem.run, Array.range_zero']
    try rfl
  rw [hrun]
  exact hs.newB _ e [] rfl (fun b => .slice (some ⟨b, 0, .none⟩) 0 0)
theorem fold_all : ∀ (us : List Value) (k : Nat) (pre rest : List Value), pre.length = k → rest.length = us.length →
    (us.zipIdx k).foldl (fun (cs : Array Value) (x : Value × Nat) => cs.setIfInBounds (0 + x.2) x.1) (pre ++ rest).toArray = (pre ++ us).toArray
  | [], k, pre, rest, h1, h2 => by
    have : rest = [] := List.eq_nil_of_length_eq_zero (by simpa using h2)
    subst this; rfl
  | u :: us, k, pre, [], h1, h2 => by simp at h2
  | u :: us, k, pre, r :: rest, h1, h2 => by
    subst h1
    have ih := fold_all us (pre.length + 1) (pre ++ [u]) rest (by simp) (by simpa using h2)
    simp only [List.zipIdx_cons, List.foldl_cons, Nat.zero_add] at ih ⊢
    have e : ((pre ++ r :: rest).toArray.setIfInBounds pre.length u) = (pre ++ [u] ++ rest).toArray := by simp
    rw [e, ih]
    simp
theorem o_buildSlice1 {T e : TypeId} {info : TypeInfo} {x : Operand} {z : Value} {k : Nat} (vs : List Value) (hu : P.underlying T = some (.slice e)) (hi : P.info? e = some info) (hsz : info.size = k) (hz : info.zero = some z) (hz1 : z.cells.size = k)
    (hk : vs.length = k) (hk1 : 0 < k ∧ k ≤ 1000) (hx : ev N t x = .agg vs.toArray) :
    OpE P w0 N (.buildSlice T 1 #[(0, x)]) ty t σ (NewB w0 σ e vs fun b => .slice (some ⟨b, 0, .none⟩) 1 1) := by
  intro a w hr hs
  obtain ⟨cs, hc, hn⟩ := sim_agg (v := a.eval x) (cs := vs.toArray) (by rw [hr.eval, hx])
  have hcs : cs.size = k := by
    have := congrArg Array.size hn
    simpa [hk] using this
  have hfold : cs.zipIdx.foldl (fun (cs : Array Value) (x : Value × Nat) => cs.setIfInBounds (0 + x.2) x.1) ((Array.range (1 * k)).map fun i => z.cells[i % z.cells.size]!) = cs := by
    have h1 := fold_all cs.toList 0 [] ((Array.range (1 * k)).map fun i => z.cells[i % z.cells.size]!).toList rfl (by simp [hcs])
    rw [← Array.foldl_toList, Array.toList_zipIdx]
    simp only [List.nil_append, Array.toArray_toList] at h1
    exact h1
  have hfill : Instr.fill (fun i => some (i * k, k)) ((Array.range (1 * k)).map fun i => z.cells[i % z.cells.size]!) [(0, a.eval x)] = some cs := by
    unfold Instr.fill
    have e1 : (a.eval x).cells = cs := by rw [hc]; rfl
    simp only [e1, Nat.zero_mul]
    rw [if_neg (by simp [hcs])]
    unfold Instr.fill
    exact congrArg some hfold
  have hrun : (execOp a.eval ⟨.none, .buildSlice T 1 #[(0, x)], ty, "", #[], .none⟩).run P w = .ok (.value (.slice (some ⟨w.heap.size, 0, .none⟩) 1 1)) { w with heap := w.heap.push (.cells cs e) } := by
    have h0 : ¬ (1 * k = 0) := by omega
    have hbig : ¬ (1 * k > 2 ^ 24) := by omega
    simp only [Nat.one_mul] at hfill h0 hbig
    simp [execOp, Instr.buildSlice, run_underlying hu, sizeOf, typeInfo, hi, hsz, zeroValue, hz, h0, hbig, hfill]
    simp [newRow, newObj, Sem.run]
    try rfl
  rw [hrun]
  refine hs.newB _ e vs ?_ (fun b => .slice (some ⟨b, 0, .none⟩) 1 1)
  have := congrArg Array.toList hn
  simpa using this
/-- a guard whose own operation was left out: left out too -/
theorem L.gU {ops : Array Oper} {Q : Exit → Fr → Sg → Prop} {rest : List Oper} {op : Op} {pos : String} {af : Array Edge} {j d₁ d : Nat} {want : Bool} (hj : (ops[j]?).bind (·.dst) = some d₁) (hN : Nat.blt d₁ N = true) (ht : t d₁ = undef)
    (hk : L P w0 N ops rest Q (upd t d undef) σ) : L P w0 N ops (⟨some d, op, ty, pos, af, some (j, want)⟩ :: rest) Q t σ := by
  intro a w hr hs
  unfold wpList
  have hlt : d₁ < N := Nat.le_of_ble_eq_true hN
  have h1 := hr.slot d₁ hlt
  rw [ht] at h1
  obtain ⟨cs, hc, _⟩ := sim_tuple (v := a.tmps.getD d₁ undef) (cs := #[]) h1
  have hs' := hr.size
  have h2 : a.tmps[d₁]? = some (.tuple cs) := by
    rw [Array.getElem?_eq_getElem (by omega)]
    simpa [show d₁ < a.tmps.size by omega] using hc
  have hw : Region.wanted (⟨some d, op, ty, pos, af, some (j, want)⟩ : Oper) (yielded ops a.tmps) = false := by
    simp only [Region.wanted, yielded, hj, Option.bind_some, h2]
    cases want <;> rfl
  rw [if_neg (by rw [hw]; decide)]
  exact hk _ _ (hr.put d rfl) hs
def permL {α : Type} : List Nat → List α → List α
  | [], _ => []
  | k :: ks, l => match l[k]? with
    | some a => a :: permL ks l
    | none => permL ks l
theorem permL_get {α : Type} (l : List α) : ∀ (ks : List Nat), (∀ k ∈ ks, k < l.length) → ks.map (fun k => l[k]?) = (permL ks l).map some
  | [], _ => rfl
  | k :: ks, h => by
    have hk := h k (by simp)
    have ih := permL_get l ks fun j hj => h j (by simp [hj])
    simp only [permL, List.map_cons, List.getElem?_eq_getElem hk, ih]
def lexPerm (ops : Array Oper) (ks : List Nat) (ms : List Bool) : Bool := Region.noSelect ops && (ks.all fun k => Nat.blt k ops.size) && ks.length == ops.size && lexP ops ms ks (Array.replicate ops.size false)
theorem W.drawPerm {Q : Exit → Fr → Sg → Prop} {id : Nat} {l : List Oper} (ks : List Nat) (ms : List Bool) (D : Sg → Prop) (hm : P.follows .mixedOrders = true) (hB : lexPerm l.toArray ks ms = true)
    (h : DL P w0 N l.toArray D (fun t σ => Q .normal t σ) (permL ks l) ms t σ) : W P w0 N (.region id l.toArray true) Q t σ := by
  intro a w hr hs
  simp only [lexPerm, Bool.and_eq_true, beq_iff_eq] at hB
  obtain ⟨⟨⟨hsel, hall⟩, hlen⟩, hB⟩ := hB
  have hg : ks.map (fun k => l[k]?) = (permL ks l).map some := permL_get l ks fun k hk => Nat.le_of_ble_eq_true (by
    have := List.all_eq_true.1 hall k hk
    rw [List.size_toArray] at this
    exact this)
  have hl : (permL ks l).length = l.length := by
    have := congrArg List.length hg
    simp only [List.length_map] at this
    rw [← this, hlen]; simp
  have := wpAnyE_of_DLP hsel (permL ks l) ms ks (Array.replicate l.toArray.size false) t σ (by simpa using hg) hB h
  rw [hl] at this
  exact wp_region_any hm (wpAny_of (fun _ _ h => h) _ _ _ _ a _ (by simpa using this) hr (hs.drawn _))
end
/-! ### the absolute value -/
def absI (t : Nat) : Int := IntKind.u64.wrap ((BitVec.ofInt IntKind.u64.bits (t : Int) &&& ~~~ BitVec.ofInt IntKind.u64.bits 9223372036854775808).toNat)
def absF (t : Nat) : Nat := (absI t).toNat
theorem absF_eq (t : Nat) : absF t = t % 9223372036854775808 := by
  have h1 : (BitVec.ofInt 64 (t : Int) &&& ~~~ BitVec.ofInt 64 9223372036854775808).toNat = t % 9223372036854775808 := by
    rw [BitVec.toNat_and, show (~~~ BitVec.ofInt 64 9223372036854775808).toNat = 2 ^ 63 - 1 by decide, Nat.and_two_pow_sub_one_eq_mod, show (BitVec.ofInt 64 (t : Int)).toNat = t % 2 ^ 64 by simp]
    omega
  have hb : IntKind.u64.bits = 64 := rfl
  unfold absF absI
  rw [hb, h1]
  rw [IntWalk.u64_in _ (by omega)]
  exact Int.toNat_natCast _
theorem isnan_absF (t : Nat) : isnan .f64 (absF t) = isnan .f64 t := by
  rw [isnan_rung, isnan_rung, absF_eq]
  have : FloatKind.f64.format.signWeight = 9223372036854775808 := by decide
  rw [this, Nat.mod_mod]
theorem absF_congr {a b : Nat} (h : cn .f64 a = cn .f64 b) : cn .f64 (absF a) = cn .f64 (absF b) := by
  rcases cn_eq h with rfl | ⟨h1, h2⟩
  · rfl
  · rw [cn_nan (by rw [isnan_absF]; exact h1), cn_nan (by rw [isnan_absF]; exact h2)]
section
variable {P : Program} {w0 : World} {N : Nat} {t : Fr} {σ : Sg} {ty : TypeId}
theorem o_bits {f : FuncId} {x : Operand} {tys : Array TypeId} {fn : Func} {b : Nat} (hf : P.funcs[f]? = some fn) (hname : (fn.name == "runtime.NumGoroutine") = false)
    (hb : fn.body.isNone = true) (hn : Extern.findNext fn = .none) (he : Extern.find fn = some Extern.MathFloatBits.float64bits) (hx : ev N t x = .float .f64 b) :
    OpE P w0 N (.call ⟨.value (.func f), #[x], tys⟩) ty t σ (fun v s => (∃ b', cn .f64 b' = cn .f64 b ∧ v = .int .u64 (b' : Nat)) ∧ s = σ) := by
  intro ac w hrel hs
  obtain ⟨b', hu, hc'⟩ := hrel.float hx
  have hc : (callFunc f #[.float .f64 b']).run P w = .ok (.value (.int .u64 (b' : Nat))) w := by rw [run_callFunc_extern hf hname hb hn he]; rfl
  have hm : (#[x] : Array Operand).map ac.eval = #[.float .f64 b'] := by simp [hu]
  have hg : (execOp ac.eval ⟨.none, .call ⟨.value (.func f), #[x], tys⟩, ty, "", #[], .none⟩).run P w = (callFunc f ((#[x] : Array Operand).map ac.eval)).run P w := by
    simp [execOp, resolve, Act.eval, Deferred.ofValue, invoke]
  rw [hg, hm, hc]
  exact ⟨_, σ, rfl, hs, ⟨b', hc', rfl⟩, rfl⟩
theorem o_unbits {f : FuncId} {x : Operand} {tys : Array TypeId} {fn : Func} {b b' : Nat} (hf : P.funcs[f]? = some fn) (hname : (fn.name == "runtime.NumGoroutine") = false)
    (hb : fn.body.isNone = true) (hn : Extern.findNext fn = .none) (he : Extern.find fn = some Extern.MathFloatBits.float64frombits) (hx : ev N t x = .int .u64 (absI b')) (hcn : cn .f64 b' = cn .f64 b) :
    OpV P w0 N (.call ⟨.value (.func f), #[x], tys⟩) ty t σ (.float .f64 (absF b)) :=
  OpV.pure fun ac w hrel hs => by
    have hu := hrel.int hx
    have hc : (callFunc f #[.int .u64 (absI b')]).run P w = .ok (.value (.float .f64 (absF b'))) w := by rw [run_callFunc_extern hf hname hb hn he]; rfl
    have hm : (#[x] : Array Operand).map ac.eval = #[.int .u64 (absI b')] := by simp [hu]
    have hg : (execOp ac.eval ⟨.none, .call ⟨.value (.func f), #[x], tys⟩, ty, "", #[], .none⟩).run P w = (callFunc f ((#[x] : Array Operand).map ac.eval)).run P w := by
      simp [execOp, resolve, Act.eval, Deferred.ofValue, invoke]
    exact ⟨_, by rw [hg, hm, hc], by rw [norm_float, norm_float, absF_congr hcn]⟩
end
end Go.Proofs.Ytnonlibekcacgaa.En
