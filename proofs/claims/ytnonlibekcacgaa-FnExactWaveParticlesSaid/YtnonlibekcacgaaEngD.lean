/-
  The engine: operations on memory.
-/
import Derived.Test.YtnonlibekcacgaaEngC
namespace Go.Proofs.Ytnonlibekcacgaa.En
open Go
set_option linter.unusedVariables false

theorem addr_add (b off n : Nat) : (⟨b, off, none⟩ : Addr).add n = ⟨b, off + n, none⟩ := by
  unfold Addr.add; split <;> simp_all

section
variable {P : Program} {w0 : World} {N : Nat} {ty : TypeId} {t : Fr} {σ : Sg}

/-! ### reading -/
theorem o_load {x : Operand} {T : TypeId} {b off : Nat} {v : Value} (hg : ∀ w, (isAgg T).run P w = .ok false w) (hx : ev N t x = .pointer (some ⟨b, off, none⟩)) (hrd : Rd σ b off v) (hv : v.oneCell' = true) :
    OpV P w0 N (.load T x) ty t σ v :=
  OpV.pure fun a w hr hs => by
    obtain ⟨u, hu, he⟩ := hs.cell hrd
    refine ⟨u, ?_, norm_of_n0 he hv⟩
    simp [execOp, hr.ptr hx, Instr.loadAt, Instr.sureAddr, loadVar, hg, load, Sem.run, hu]

/-- a row of tracked cells -/
def Rds (σ : Sg) (b off : Nat) (vs : List Value) : Prop := ∀ j v, vs[j]? = some v → Rd σ b (off + j) v
theorem Rds.of {b off : Nat} {e : TypeId} {cs vs : List Value} (hb : σ b = some (e, cs)) (h : ∀ j v, vs[j]? = some v → cs[off + j]? = some v) : Rds σ b off vs := fun j v hv => ⟨e, cs, hb, h j v hv⟩
theorem Sat.cells {w : World} (hs : Sat w0 σ w) {b : Nat} : ∀ {off : Nat} {vs : List Value}, Rds σ b off vs → ∃ us : List Value, us.length = vs.length ∧ us.map n0 = vs.map n0 ∧ ∀ j u, us[j]? = some u → w.cell? ⟨b, off + j, none⟩ = some u
  | _, [], _ => ⟨[], rfl, rfl, fun j u h => by simp at h⟩
  | off, v :: vs, h => by
    obtain ⟨u, hu, he⟩ := hs.cell (h 0 v rfl)
    obtain ⟨us, h1, h2, h3⟩ := Sat.cells hs (b := b) (off := off + 1) (vs := vs) fun j v' hv => by
      have := h (j + 1) v' (by simpa using hv)
      rwa [show off + 1 + j = off + (j + 1) by omega]
    refine ⟨u :: us, by simp [h1], by simp [he, h2], fun j u' hj => ?_⟩
    cases j with
    | zero => simp at hj; subst hj; exact hu
    | succ j =>
      have := h3 j u' (by simpa using hj)
      rwa [show off + (j + 1) = off + 1 + j by omega]
theorem run_cells {w : World} {b off : Nat} {us : List Value} (h : ∀ j u, us[j]? = some u → w.cell? ⟨b, off + j, none⟩ = some u) : (loadCells ⟨b, off, none⟩ us.length).run P w = .ok us.toArray w :=
  run_loadCells_list (P := P) (w := w) ⟨b, off, none⟩ us fun j v hj => by rw [addr_add]; exact h j v hj
theorem o_loads {x : Operand} {T : TypeId} {b off k : Nat} {vs : List Value} (hg : ∀ w, (isAgg T).run P w = .ok true w) (hz : ∀ w, (sizeOf T).run P w = .ok k w) (hk : vs.length = k) (hx : ev N t x = .pointer (some ⟨b, off, none⟩))
    (hrd : Rds σ b off vs) : OpV P w0 N (.load T x) ty t σ (.agg vs.toArray) :=
  OpV.pure fun a w hr hs => by
    obtain ⟨us, h1, h2, h3⟩ := hs.cells hrd
    refine ⟨.agg us.toArray, ?_, by rw [norm_agg, norm_agg]; simp [h2]⟩
    have := run_cells (P := P) h3
    rw [h1, hk] at this
    simp [execOp, hr.ptr hx, Instr.loadAt, Instr.sureAddr, loadVar, hg, hz, this]

/-! ### writing -/
theorem o_store {x y : Operand} {T : TypeId} {b off : Nat} {v : Value} {e : TypeId} {cs : List Value} (hz : ∀ w, (sizeOf T).run P w = .ok 1 w) (hx : ev N t x = .pointer (some ⟨b, off, none⟩)) (hy : ev N t y = v) (hv : v.oneCell' = true)
    (hb : σ b = some (e, cs)) (hlt : off < cs.length) (hw : w0.heap.size ≤ b) : OpE P w0 N (.store T x y) ty t σ fun u σ' => u = undef ∧ σ' = sg σ b (e, cs.set off v) := by
  intro a w hr hs
  have hu : norm (a.eval y) = norm v := by rw [hr.eval, hy]
  have h1 : (a.eval y).oneCell' = true := norm_onecell hu hv
  obtain ⟨u, hcell, _⟩ := hs.cell (b := b) (off := off) (v := cs[off]) ⟨e, cs, hb, by simp [hlt]⟩
  have hfz := hs.unfrozen (off := off) hb hw
  have hrun : (execOp a.eval ⟨none, .store T x y, ty, "", #[], none⟩).run P w = .ok .skip (w.setCell ⟨b, off, none⟩ (a.eval y)) := by
    have hcs : (a.eval y).cells = #[a.eval y] := by cases hh : a.eval y <;> first | rfl | (rw [hh] at h1; simp [Value.oneCell'] at h1)
    simp only [execOp, hr.ptr hx, Instr.storeAt, Instr.sureAddr, storeVar]
    simp only [hcs]
    have hst : (storeCells ⟨b, off, none⟩ [a.eval y]).run P w = .ok () (w.setCell ⟨b, off, none⟩ (a.eval y)) := by
      simp only [storeCells, addr_add, Nat.add_zero]
      cases hh : a.eval y <;> first
        | (rw [hh] at h1; simp [Value.oneCell'] at h1; done)
        | (simp [store, Sem.run, hcell, hfz])
    simp [hz, hst]
  rw [hrun]
  exact ⟨_, hs.set hb hw (n0_of_norm hu hv), rfl, rfl⟩

/-- a row written into a list -/
def wr (cs : List Value) (o : Nat) : List Value → List Value
  | [] => cs
  | v :: vs => wr (cs.set o v) (o + 1) vs
theorem wr_length (vs : List Value) : ∀ (cs : List Value) (o : Nat), (wr cs o vs).length = cs.length := by
  induction vs with
  | nil => intro cs o; rfl
  | cons v vs ih => intro cs o; simp [wr, ih]
theorem run_wr {b : Nat} {e : TypeId} (hw : w0.heap.size ≤ b) (base : Nat) : ∀ (us vs : List Value) (i : Nat) (cs : List Value) (w : World) (σ : Sg), us.map n0 = vs.map n0 → (∀ u ∈ us, u.oneCell' = true) → Sat w0 σ w → σ b = some (e, cs) → base + i + us.length ≤ cs.length →
    ∃ w', (storeCells ⟨b, base, none⟩ us i).run P w = .ok () w' ∧ Sat w0 (sg σ b (e, wr cs (base + i) vs)) w'
  | [], [], i, cs, w, σ, _, _, hs, hb, _ => by
    refine ⟨w, rfl, ?_⟩
    have : sg σ b (e, wr cs (base + i) []) = σ := by
      funext n
      by_cases hn : n = b
      · subst hn; rw [sg_eq, hb]; rfl
      · rw [sg_ne hn]
    rw [this]; exact hs
  | [], v :: vs, _, _, _, _, h, _, _, _, _ => by simp at h
  | u :: us, [], _, _, _, _, h, _, _, _, _ => by simp at h
  | u :: us, v :: vs, i, cs, w, σ, h, h1, hs, hb, hl => by
    simp only [List.map_cons, List.cons.injEq] at h
    have hl' : base + i < cs.length := by simp at hl; omega
    obtain ⟨u0, hcell, _⟩ := hs.cell (b := b) (off := base + i) (v := cs[base + i]) ⟨e, cs, hb, by simp [hl']⟩
    have hfz := hs.unfrozen (off := base + i) hb hw
    have hu1 := h1 u (by simp)
    have hset := hs.set hb hw (off := base + i) h.1
    obtain ⟨w', hr, hs'⟩ := run_wr hw base us vs (i + 1) (cs.set (base + i) v) _ _ h.2 (fun u' hu' => h1 u' (by simp [hu'])) hset (sg_eq _ _ _) (by simp at hl ⊢; omega)
    refine ⟨w', ?_, ?_⟩
    · simp only [storeCells, addr_add]
      cases hh : u <;> subst hh <;> first
        | (simp [Value.oneCell'] at hu1; done)
        | (simp [store, Sem.run, hcell, hfz, hr])
    · have e1 : sg (sg σ b (e, cs.set (base + i) v)) b (e, wr (cs.set (base + i) v) (base + (i + 1)) vs) = sg σ b (e, wr cs (base + i) (v :: vs)) := by
        funext n
        by_cases hn : n = b
        · subst hn; rw [sg_eq, sg_eq]; rfl
        · rw [sg_ne hn, sg_ne hn, sg_ne hn]
      rw [← e1]; exact hs'
theorem n0_one' {u v : Value} (h : n0 u = n0 v) (hv : v.oneCell' = true) : u.oneCell' = true := n0_one h hv
theorem ones_of {us vs : List Value} (h : us.map n0 = vs.map n0) (hv : ∀ v ∈ vs, v.oneCell' = true) : ∀ u ∈ us, u.oneCell' = true := by
  intro u hu
  obtain ⟨i, hi, rfl⟩ := List.getElem_of_mem hu
  have hl : us.length = vs.length := by simpa using congrArg List.length h
  have := congrArg (fun l => l[i]?) h
  simp only [List.getElem?_map, List.getElem?_eq_getElem hi, List.getElem?_eq_getElem (show i < vs.length by omega), Option.map_some, Option.some.injEq] at this
  exact n0_one this (hv _ (List.getElem_mem _))
theorem o_stores {x y : Operand} {T : TypeId} {b off k : Nat} {vs : List Value} {e : TypeId} {cs : List Value} (hz : ∀ w, (sizeOf T).run P w = .ok k w) (hx : ev N t x = .pointer (some ⟨b, off, none⟩)) (hy : ev N t y = .agg vs.toArray) (hk : vs.length = k) (hv : ∀ v ∈ vs, v.oneCell' = true)
    (hb : σ b = some (e, cs)) (hlt : off + k ≤ cs.length) (hw : w0.heap.size ≤ b) : OpE P w0 N (.store T x y) ty t σ fun u σ' => u = undef ∧ σ' = sg σ b (e, wr cs off vs) := by
  intro a w hr hs
  obtain ⟨us, hu, he⟩ := sim_agg (v := a.eval y) (cs := vs.toArray) (by rw [hr.eval, hy])
  have he' : us.toList.map n0 = vs.map n0 := by
    have := congrArg Array.toList he
    simpa using this
  have hul : us.size = vs.length := by simpa using congrArg List.length he'
  obtain ⟨w', hrun, hs'⟩ := run_wr (P := P) hw off us.toList vs 0 cs w σ he' (ones_of he' hv) hs hb (by simp [hul]; omega)
  have : (execOp a.eval ⟨none, .store T x y, ty, "", #[], none⟩).run P w = .ok .skip w' := by
    simp [execOp, hr.ptr hx, Instr.storeAt, Instr.sureAddr, storeVar, hu, Value.cells, hz, hul, hk, hrun]
  rw [this]
  exact ⟨_, hs', rfl, rfl⟩

/-! ### new blocks -/
def NewB (w0 : World) (σ : Sg) (e : TypeId) (cs : List Value) (mk : Nat → Value) : Value → Sg → Prop := fun u σ' => ∃ b, σ b = none ∧ w0.heap.size ≤ b ∧ u = mk b ∧ σ' = sg σ b (e, cs)
theorem Sat.newB {w : World} (hs : Sat w0 σ w) (c : Array Value) (e : TypeId) (cs : List Value) (hc : c.toList.map n0 = cs.map n0) (mk : Nat → Value) :
    ∃ v σ', norm (mk w.heap.size) = norm v ∧ Sat w0 σ' { w with heap := w.heap.push (.cells c e) } ∧ NewB w0 σ e cs mk v σ' :=
  ⟨_, _, rfl, hs.new c e cs hc, w.heap.size, hs.fresh, hs.below.size, rfl, rfl⟩
theorem cells_one {u : Value} (h : u.oneCell' = true) : u.cells = #[u] := by cases u <;> first | rfl | (simp [Value.oneCell'] at h)
theorem cells_norm {u v : Value} (h : norm u = norm v) (hv : notTup v = true) : u.cells.toList.map n0 = v.cells.toList.map n0 := by
  by_cases hone : v.oneCell' = true
  · rw [cells_one hone, cells_one (norm_onecell h hone)]
    simp [n0_of_norm h hone]
  · cases v with
    | agg cs =>
      obtain ⟨cs', rfl, he⟩ := sim_agg h
      have := congrArg Array.toList he
      simpa [Value.cells] using this
    | tuple vs => simp [notTup] at hv
    | _ => exact absurd rfl hone
theorem o_box {x : Operand} {T : TypeId} {v : Value} (hx : ev N t x = v) (nv : notTup v = true) (cs : List Value) (hcs : v.cells.toList = cs) :
    OpE P w0 N (.box T x) ty t σ (NewB w0 σ T cs fun b => .pointer (some ⟨b, 0, none⟩)) := by
  intro a w hr hs
  have hu : norm (a.eval x) = norm v := by rw [hr.eval, hx]
  have hrun : (execOp a.eval ⟨none, .box T x, ty, "", #[], none⟩).run P w = .ok (.value (.pointer (some ⟨w.heap.size, 0, none⟩))) { w with heap := w.heap.push (.cells (a.eval x).cells T) } := by
    simp [execOp, Instr.box, newVar, newRow, newObj, Sem.run]
    try rfl
  rw [hrun]
  exact hs.newB (a.eval x).cells T cs (by rw [← hcs]; exact cells_norm hu nv) fun b => .pointer (some ⟨b, 0, none⟩)
theorem o_alloc {T : TypeId} {z : Value} (hz : ∀ w, (zeroValue T).run P w = .ok z w) (cs : List Value) (hcs : z.cells.toList = cs) :
    OpE P w0 N (.alloc T) ty t σ (NewB w0 σ T cs fun b => .pointer (some ⟨b, 0, none⟩)) := by
  intro a w hr hs
  have hrun : (execOp a.eval ⟨none, .alloc T, ty, "", #[], none⟩).run P w = .ok (.value (.pointer (some ⟨w.heap.size, 0, none⟩))) { w with heap := w.heap.push (.cells z.cells T) } := by
    simp [execOp, Instr.alloc, hz, newVar, newRow, newObj, Sem.run]
    try rfl
  rw [hrun]
  exact hs.newB z.cells T cs (by rw [hcs]) fun b => .pointer (some ⟨b, 0, none⟩)

/-! ### addresses -/
theorem o_fieldAddr {x : Operand} {S : TypeId} {f b off o : Nat} (hf : ∀ (a : Addr) w, (Instr.fieldAt S (.pointer (some a)) f).run P w = .ok (.pointer (some (a.add o))) w) (hx : ev N t x = .pointer (some ⟨b, off, none⟩)) :
    OpV P w0 N (.fieldAddr S x f) ty t σ (.pointer (some ⟨b, off + o, none⟩)) :=
  OpV.pure fun a w hr hs => ⟨_, by simp [execOp, hr.ptr hx, hf, addr_add], rfl⟩
theorem run_fieldAt {S : TypeId} {f : Nat} {fs : Array Field} {fld : Field} {k : Nat} (hS : P.underlying S = some (.struct fs)) (hf : fs[f]? = some fld) (hk : ∀ w, (sizeOf fld.type).run P w = .ok k w) (h0 : k ≠ 0) (a : Addr) (w : World) :
    (Instr.fieldAt S (.pointer (some a)) f).run P w = .ok (.pointer (some (a.add fld.offset))) w := by
  simp [Instr.fieldAt, run_underlying hS, hf, Instr.sureAddr, fieldPlace, hk, h0]
theorem o_indexAddr {x y : Operand} {T e : TypeId} {ik : IntKind} {b off n c k : Nat} (i : Nat) (hu : P.underlying T = some (.slice e)) (hk : ∀ w, (sizeOf e).run P w = .ok k w) (hx : ev N t x = .slice (some ⟨b, off, none⟩) n c) (hy : ev N t y = .int ik i) (hi : i < n) :
    OpV P w0 N (.indexAddr T x y) ty t σ (.pointer (some ⟨b, off + i * k, none⟩)) :=
  OpV.pure fun a w hr hs => ⟨.pointer (some ⟨b, off + i * k, none⟩), by
    have h1 : (0 : Int) ≤ i ∧ (i : Int) < n := by omega
    simp [execOp, hr.slice hx, hr.int hy, Instr.indexAt, asIntOf, run_underlying hu, hk, addr_add]
    omega, rfl⟩
/-- at an array behind a pointer -/
theorem o_indexAddrA {x y : Operand} {T e : TypeId} {ik : IntKind} {b off n k : Nat} (i : Nat) (hu : P.underlying T = some (.array n e)) (hk : ∀ w, (sizeOf e).run P w = .ok k w) (hx : ev N t x = .pointer (some ⟨b, off, none⟩)) (hy : ev N t y = .int ik i) (hi : i < n) :
    OpV P w0 N (.indexAddr T x y) ty t σ (.pointer (some ⟨b, off + i * k, none⟩)) :=
  OpV.pure fun a w hr hs => ⟨.pointer (some ⟨b, off + i * k, none⟩), by
    have h1 : (0 : Int) ≤ i ∧ (i : Int) < n := by omega
    simp [execOp, hr.ptr hx, hr.int hy, Instr.indexAt, asIntOf, Instr.sureAddr, run_underlying hu, hk, addr_add]
    omega, rfl⟩
/-- 'x[lo:hi]' -/
theorem o_slice2 {x lo hi : Operand} {T e : TypeId} {k1 k2 : IntKind} {b off n c k : Nat} (l h : Nat) (hu : P.underlying T = some (.slice e)) (hk : ∀ w, (sizeOf e).run P w = .ok k w) (hx : ev N t x = .slice (some ⟨b, off, none⟩) n c) (hl : ev N t lo = .int k1 l) (hh : ev N t hi = .int k2 h)
    (h1 : l ≤ h) (h2 : h ≤ c) (h3 : l < c) : OpV P w0 N (.slice T x (some lo) (some hi) none) ty t σ (.slice (some ⟨b, off + l * k, none⟩) (h - l) (c - l)) :=
  OpV.pure fun a w hr hs => ⟨.slice (some ⟨b, off + l * k, none⟩) (h - l) (c - l), by
    have e3 : ¬ c = l := by omega
    simp [execOp, hr.slice hx, hr.int hl, hr.int hh, Instr.sliceAt, Instr.slice, run_underlying hu, Instr.sliceBounds, Instr.sliceBound, asIntOf, hk, h1, h2, e3, addr_add], rfl⟩

/-! ### makes and literals -/
theorem o_makeSlice {x : Operand} {T e : TypeId} {ik : IntKind} {info : TypeInfo} {z : Value} (n : Nat) (hu : P.underlying T = some (.slice e)) (hi : P.info? e = some info) (hz : info.zero = some z) (hx : ev N t x = .int ik n) (hb : info.bytes * n ≤ 281474976710656) (h63 : n ≤ 9223372036854775807) :
    OpE P w0 N (.makeSlice T x x) ty t σ (NewB w0 σ e (madeCells z.cells (n * info.size)).toList fun b => .slice (some ⟨b, 0, none⟩) n n) := by
  intro a w hr hs
  have hb' : (info.bytes : Int) * (n : Int) ≤ 281474976710656 := by
    have h : ((info.bytes * n : Nat) : Int) ≤ 281474976710656 := by omega
    rwa [Int.natCast_mul] at h
  have hm := run_make (P := P) w T e info z hu hi hz ik ik n n (by omega) (Int.le_refl _) hb' (by omega)
  simp only [Int.toNat_natCast] at hm
  have hrun : (execOp a.eval ⟨none, .makeSlice T x x, ty, "", #[], none⟩).run P w = .ok (.value (.slice (some ⟨w.heap.size, 0, none⟩) n n)) { w with heap := w.heap.push (.cells (madeCells z.cells (n * info.size)) e) } := by
    simp only [execOp, hr.int hx]
    simp [hm]
    try rfl
  rw [hrun]
  exact hs.newB _ e _ rfl (fun b => .slice (some ⟨b, 0, none⟩) n n)
theorem made_one (z : Value) (n : Nat) : (madeCells #[z] n).toList = List.replicate n z := by
  apply List.ext_getElem
  · simp [madeCells]
  · intro i h1 h2
    simp [madeCells, Nat.mod_one]
/-- '[]T{x0, x1, ..}', one cell an element, every place written in order; also '[]T{}' -/
theorem fill_ones : ∀ (us : List Value) (k : Nat) (pre : List Value) (rest : List Value), pre.length = k → rest.length = us.length → (∀ u ∈ us, u.oneCell' = true) →
    Instr.fill (fun i => some (i, 1)) (pre ++ rest).toArray ((us.zipIdx k).map fun p => (p.2, p.1)) = some (pre ++ us).toArray
  | [], k, pre, rest, h1, h2, _ => by
    have : rest = [] := List.eq_nil_of_length_eq_zero (by simpa using h2)
    subst this
    simp [Instr.fill]
  | u :: us, k, pre, [], h1, h2, _ => by simp at h2
  | u :: us, k, pre, r :: rest, h1, h2, h3 => by
    subst h1
    have hu := cells_one (h3 u (by simp))
    have ih := fill_ones us (pre.length + 1) (pre ++ [u]) rest (by simp) (by simpa using h2) (fun v hv => h3 v (by simp [hv]))
    simp only [List.zipIdx_cons, List.map_cons, Instr.fill, hu]
    have e : ((pre ++ r :: rest).toArray.setIfInBounds pre.length u) = (pre ++ [u] ++ rest).toArray := by
      simp
    simp only [List.append_assoc, List.cons_append, List.nil_append] at ih e
    simp [Array.zipIdx, e, ih]
theorem o_buildSlice {T e : TypeId} {info : TypeInfo} {n : Nat} {parts : Array (Nat × Operand)} {z : Value} (vs : List Value) (hu : P.underlying T = some (.slice e)) (hi : P.info? e = some info) (hsz : info.size = 1) (hz : info.zero = some z) (hz1 : z.cells.size = 1)
    (hn : vs.length = n) (hlit : n ≤ 1000) (hp : parts.toList.map (fun p => p.1) = List.range n) (hv : parts.toList.map (fun p => ev N t p.2) = vs) (h1 : ∀ v ∈ vs, v.oneCell' = true) :
    OpE P w0 N (.buildSlice T n parts) ty t σ (NewB w0 σ e vs fun b => .slice (some ⟨b, 0, none⟩) n n) := by
  intro a w hr hs
  have hlen : parts.toList.length = n := by have := congrArg List.length hp; simpa using this
  let us : List Value := parts.toList.map fun p => a.eval p.2
  have hus : us.map norm = vs.map norm := by
    rw [← hv]
    simp only [us, List.map_map]
    exact List.map_congr_left fun p _ => hr.eval p.2
  have husl : us.length = n := by simp [us, hlen]
  have hu1 : ∀ u ∈ us, u.oneCell' = true := by
    intro u hu'
    obtain ⟨i, hi', rfl⟩ := List.getElem_of_mem hu'
    have := congrArg (fun l => l[i]?) hus
    simp only [List.getElem?_map, List.getElem?_eq_getElem hi', List.getElem?_eq_getElem (show i < vs.length by omega), Option.map_some, Option.some.injEq] at this
    exact norm_onecell this (h1 _ (List.getElem_mem _))
  have hn0 : us.map n0 = vs.map n0 := by
    apply List.ext_getElem
    · simp [husl, hn]
    · intro i h1' h2'
      have := congrArg (fun l => l[i]?) hus
      simp only [List.length_map] at h1' h2'
      simp only [List.getElem?_map, List.getElem?_eq_getElem h1', List.getElem?_eq_getElem h2', Option.map_some, Option.some.injEq] at this
      simp only [List.getElem_map]
      exact n0_of_norm this (h1 _ (List.getElem_mem _))
  have hparts : (parts.map fun p => (p.1, a.eval p.2)).toList = (us.zipIdx 0).map fun p => (p.2, p.1) := by
    apply List.ext_getElem
    · simp [husl, ← hlen]
    · intro i h1' h2'
      have hi' : i < parts.toList.length := by simpa using h1'
      have := congrArg (fun l => l[i]?) hp
      simp only [List.getElem?_map, List.getElem?_eq_getElem hi', Option.map_some] at this
      rw [List.getElem?_eq_getElem (by simp; omega)] at this
      simp at this
      simp [us, this]
  have hfill := fill_ones us 0 [] (List.replicate n (z.cells[0]!)) rfl (by simp [husl]) hu1
  have hrun : (execOp a.eval ⟨none, .buildSlice T n parts, ty, "", #[], none⟩).run P w = .ok (.value (.slice (some ⟨w.heap.size, 0, none⟩) n n)) { w with heap := w.heap.push (.cells us.toArray e) } := by
    have hcells : (Array.range (n * 1)).map (fun i => z.cells[i % z.cells.size]!) = (List.replicate n (z.cells[0]!)).toArray := by
      apply Array.ext
      · simp
      · intro i h1' h2'; simp [hz1, Nat.mod_one]
    have hbig : ¬ n * 1 > 2 ^ 24 := by omega
    simp only [execOp]
    simp only [Nat.mul_one] at hcells hbig
    simp only [List.nil_append] at hfill
    by_cases h0 : n = 0
    · subst h0
      have hnil : us = [] := List.eq_nil_of_length_eq_zero husl
      rw [hnil] at hfill hparts ⊢
      have hp0 : (parts.map fun p => (p.1, a.eval p.2)) = #[] := by
        have := congrArg List.toArray hparts
        simpa using this
      simp [hp0, Instr.buildSlice, run_underlying hu, sizeOf, typeInfo, hi, Instr.fill, newRow, newObj, Sem.run, Array.range_zero']
      try rfl
    · have hparts' : (parts.map fun p => (p.1, a.eval p.2)).toList = (us.zipIdx 0).map fun p => (p.2, p.1) := hparts
      simp [Instr.buildSlice, run_underlying hu, sizeOf, typeInfo, hi, hsz, zeroValue, hz, h0, hbig, hcells, -Array.toList_map]
      have hf' : Instr.fill (fun i => some (i, 1)) (Array.replicate n z.cells[0]!) (Array.map (fun x => (x.fst, a.eval x.snd)) parts).toList = some us.toArray := by
        rw [hparts']; simpa using hfill
      rw [hf']
      simp [newRow, newObj, Sem.run]
      try rfl
  rw [hrun]
  exact hs.newB _ e vs (by simpa using hn0) (fun b => .slice (some ⟨b, 0, none⟩) n n)
end
end Go.Proofs.Ytnonlibekcacgaa.En
