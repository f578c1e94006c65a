/-
  The engine: slices apart from one another; a slice marked in place; what an append leaves; results in memory; more openers of arguments.
-/
import Derived.Test.YtnonlibekcacgaaEngI
namespace Go.Proofs.Ytnonlibekcacgaa.En
open Go
set_option linter.unusedVariables false

section
variable {P : Program} {w0 : World} {N : Nat} {σ : Sg}
theorem Grew.ext {s s' : Sg} {v v' : Value} (h : Grew s s' v v') (hx : Ext σ s) (hv : ∀ b, v.ownBlock = some b → σ b = none) : Ext σ s' := fun b x hb =>
  h.1 b x (hx b x hb) fun e => by rw [hv b e] at hb; cases hb
theorem Grew.fresh {s s' : Sg} {v v' : Value} (h : Grew s s' v v') (hx : Ext σ s) (hv : ∀ b, v.ownBlock = some b → σ b = none) : ∀ b, v'.ownBlock = some b → σ b = none := fun b hb => by
  rcases h.2 b hb with h1 | h1
  · exact hv b h1
  · cases h2 : σ b with
    | none => rfl
    | some x => rw [hx b x h2] at h1; cases h1
theorem ownNil : ∀ b, (Value.slice none 0 0).ownBlock = some b → σ b = none := fun b h => by simp [Value.ownBlock] at h
theorem Own.new {b : Nat} {e : TypeId} (size : Nat) (hw : w0.heap.size ≤ b) : Own w0 (sg σ b (e, [])) e size (.slice (some ⟨b, 0, none⟩) 0 0) 0 [] :=
  ⟨by simp, .inr ⟨b, 0, [], rfl, hw, sg_eq _ _ _, Nat.le_refl _, by simp [maxLen], by simp, by simp⟩⟩
theorem ownAt {b n c : Nat} (hf : σ b = none) : ∀ b', (Value.slice (some ⟨b, 0, none⟩) n c).ownBlock = some b' → σ b' = none := fun b' h => by
  simp [Value.ownBlock] at h; subst h; exact hf

/-- two slices share no cell: the lengths and where they lie -/
def Apart (n m : Nat) (p q : Option Addr) : Prop := n = 0 ∨ m = 0 ∨ ∀ b off c off', p = some ⟨b, off, none⟩ → q = some ⟨c, off', none⟩ → b ≠ c
theorem Apart.symm {n m : Nat} {p q : Option Addr} (h : Apart n m p q) : Apart m n q p := by
  rcases h with h | h | h
  · exact .inr (.inl h)
  · exact .inl h
  · exact .inr (.inr fun b off c off' hp hq e => h c off' b off hq hp e.symm)
theorem Fsl.apart {s : Sg} {k k' : Nat} {rows rowsq : List (List Value)} {p q : Option Addr} (h : Fsl w0 σ k rows p s) (hq : Sl σ k' q rowsq) (hr : ∀ r ∈ rowsq, r ≠ []) : Apart rows.length rowsq.length p q := by
  rcases hq with rfl | ⟨c, off', hq, hrow⟩
  · exact .inr (.inl rfl)
  · cases hl : rowsq with
    | nil => exact .inr (.inl rfl)
    | cons r rest =>
      refine .inr (.inr fun b off c' off'' hp hq' e => ?_)
      rw [hq] at hq'
      cases hq'
      have hr0 : r ≠ [] := hr r (by rw [hl]; simp)
      obtain ⟨v, vs, rfl⟩ := List.exists_cons_of_ne_nil hr0
      obtain ⟨e', cs, hb, _⟩ := hrow 0 (v :: vs) (by rw [hl]; rfl) 0 v rfl
      rcases h.own with h1 | ⟨d, e1, cs1, h1, h2, _⟩
      · rw [h1] at hp; cases hp
      · rw [h1] at hp
        cases hp
        rw [e, hb] at h2; cases h2
/-- a slice that may be written: its own block, or none -/
def Mut (w0 : World) (s : Sg) (n : Nat) (p : Option Addr) : Prop := n = 0 ∨ ∃ b e cs, p = some ⟨b, 0, none⟩ ∧ w0.heap.size ≤ b ∧ s b = some (e, cs) ∧ n ≤ cs.length
theorem Fsl.mut {s : Sg} {k : Nat} {rows : List (List Value)} {p : Option Addr} (h : Fsl w0 σ k rows p s) (n : Nat) (hn : n = rows.length * k) : Mut w0 s n p := by
  rcases h.own with h1 | ⟨b, e, cs, h1, _, h3, h4, h5⟩
  · rcases h.reads with h2 | ⟨b, off, hp, _⟩
    · left; rw [hn, h2]; simp
    · rw [h1] at hp; cases hp
  · exact .inr ⟨b, e, cs, h1, h3, h4, by omega⟩
theorem Mut.ext {s s' : Sg} {n : Nat} {p : Option Addr} (h : Mut w0 s n p) (hx : Ext s s') : Mut w0 s' n p := by
  rcases h with h | ⟨b, e, cs, h1, h2, h3, h4⟩
  · exact .inl h
  · exact .inr ⟨b, e, cs, h1, h2, hx _ _ h3, h4⟩
/-- a slice of n rows at p has been written in place, nothing else -/
def Mkd (s s' : Sg) (n : Nat) (p : Option Addr) : Prop := (n = 0 ∧ s' = s) ∨ (n ≠ 0 ∧ ∃ b, p = some ⟨b, 0, none⟩ ∧ But (some b) s s')
theorem Sl.mkd {s s' : Sg} {n k : Nat} {p q : Option Addr} {rows : List (List Value)} (h : Sl s k q rows) (hm : Mkd s s' n p) (ha : Apart n rows.length p q) : Sl s' k q rows := by
  rcases hm with ⟨_, rfl⟩ | ⟨hn, b, hp, hb⟩
  · exact h
  · rcases ha with h0 | h0 | ha
    · exact absurd h0 hn
    · left; exact List.eq_nil_of_length_eq_zero h0
    · exact h.but hb fun c off hq e => ha b 0 c off hp hq (Option.some.inj e)
theorem Mut.mkd {s s' : Sg} {n m m' : Nat} {p q : Option Addr} (h : Mut w0 s m q) (hm : Mkd s s' n p) (ha : Apart n m' p q) (hmm : m' = 0 → m = 0) : Mut w0 s' m q := by
  rcases hm with ⟨_, rfl⟩ | ⟨hn, b, hp, hb⟩
  · exact h
  · rcases h with h | ⟨c, e, cs, h1, h2, h3, h4⟩
    · exact .inl h
    · rcases ha with h0 | h0 | ha
      · exact absurd h0 hn
      · exact .inl (hmm h0)
      · exact .inr ⟨c, e, cs, h1, h2, hb _ _ h3 (fun e' => ha b 0 c 0 hp h1 (Option.some.inj e')), h4⟩
theorem Mkd.cells {s s' : Sg} {n b1 : Nat} {p : Option Addr} {x} (hm : Mkd s s' n p) (h : s b1 = some x) (hne : ∀ b' off, p = some ⟨b', off, none⟩ → b' ≠ b1) : s' b1 = some x := by
  rcases hm with ⟨_, rfl⟩ | ⟨hn, b, hp, hb⟩
  · exact h
  · exact hb _ _ h fun e => hne b 0 hp (Option.some.inj e)

/-- cells overwritten one by one, from the first on -/
def mkc (f : Nat → Value) (cs : List Value) : Nat → List Value
  | 0 => cs
  | i + 1 => (mkc f cs i).set i (f i)
theorem mkc_length (f : Nat → Value) (cs : List Value) (i : Nat) : (mkc f cs i).length = cs.length := by
  induction i with
  | zero => rfl
  | succ i ih => simp [mkc, ih]
theorem mkc_get (f : Nat → Value) (cs : List Value) : ∀ (i j : Nat), j < i → i ≤ cs.length → (mkc f cs i)[j]? = some (f j)
  | 0, _, h, _ => by omega
  | i + 1, j, h, hl => by
    simp only [mkc]
    by_cases hj : j = i
    · subst hj
      rw [List.getElem?_set_self (by rw [mkc_length]; omega)]
    · rw [List.getElem?_set_ne (by omega)]
      exact mkc_get f cs i j (by omega) (by omega)

/-- a struct result in memory -/
theorem RetK.cell {fn : Func} {K : Value → Sg → Prop} {t : Fr} {r ty b off k : Nat} (σ' : Sg) (vs : List Value) (hg : ∀ w, (isAgg ty).run P w = .ok true w) (hz : ∀ w, (sizeOf ty).run P w = .ok k w) (hk : vs.length = k) (hf : fn.results = #[.cell r ty]) (hv : ev N t (.tmp r) = .pointer (some ⟨b, off, none⟩))
    (hrd : Rds σ b off vs) (hx : Ext σ' σ) (hK : K (.agg vs.toArray) σ') : RetK P fn w0 N K t σ := by
  intro a w hr hs
  obtain ⟨us, h1, h2, h3⟩ := hs.cells hrd
  refine ⟨.agg us.toArray, _, σ', ?_, by rw [norm_agg, norm_agg]; simp [h2], hx, hK⟩
  have hp : a.tmps.getD r undef = .pointer (some ⟨b, off, none⟩) := sim_pointer (by
    have := hr.eval (.tmp r)
    rw [hv] at this
    exact this)
  have hc := run_cells (P := P) h3
  rw [h1, hk] at hc
  unfold results
  rw [hf]
  have hp' : a.tmps[r]?.getD undef = .pointer (some ⟨b, off, none⟩) := by simpa using hp
  simp [hp', asAddr, loadVar, hg, hz, hc]
end

/-! ### what a law is handed -/
theorem i64_bounds {n : Int} (h : (Lit.int .i64 n).wf = true) : -9223372036854775808 ≤ n ∧ n ≤ 9223372036854775807 := by
  simpa [Lit.wf, IntKind.min, IntKind.max, IntKind.signed, IntKind.bits] using h
/-! ### marks -/
theorem isnan_nearest (f : Ieee.Format) (neg : Bool) (m : Nat) (e : Int) : ∀ s t, f.read (f.nearest neg m e) ≠ .nan s t := by
  intro s t h
  have hlt := f.infRung_lt
  have key : ∀ r, r ≤ f.infRung → f.read (f.word neg r) ≠ .nan s t := by
    intro r hr
    unfold Ieee.Format.read
    dsimp only
    rw [rung_word f neg r (by omega)]
    split
    · simp
    · split
      · simp
      · rw [if_pos (by omega)]; simp
  unfold Ieee.Format.nearest at h
  dsimp only at h
  split at h
  · exact key 0 (Nat.zero_le _) h
  · exact key _ (Nat.min_le_right _ _) h
theorem nearest_num (k : FloatKind) (n : Int) : isnan k (FloatKind.nearest k n) = false := by
  cases h : isnan k (FloatKind.nearest k n) with
  | false => rfl
  | true =>
    obtain ⟨s, t, hd⟩ := decode_nan h
    exact absurd hd (isnan_nearest _ _ _ _ s t)
theorem order_self {k : FloatKind} {a : Nat} (h : isnan k a = false) : k.format.order a a = some .eq := by
  unfold Ieee.Format.order
  have hd : k.decode a = k.format.read a := rfl
  unfold isnan at h
  rw [hd] at h
  cases hr : k.format.read a with
  | nan s t => rw [hr] at h; simp [Ieee.Datum.isNaN] at h
  | infinity s => cases s <;> rfl
  | number s m e =>
    simp only [Ieee.Datum.order]
    congr 1
    exact Int.compare_eq_eq.2 rfl
theorem fcmp_neq_self {k : FloatKind} {a : Nat} (h : isnan k a = false) : fcmp .neq k a a = false := by
  simp [fcmp, order_self h]
theorem fcmp_eql_self {k : FloatKind} {a : Nat} (h : isnan k a = false) : fcmp .eql k a a = true := by
  simp [fcmp, order_self h]
def mark32 (k : Int) (j : Nat) : Value := .float .f32 (FloatKind.nearest .f32 (k + j))
def marks32 (k : Int) (n : Nat) : List (List Value) := (List.range n).map fun (j : Nat) => fl (FloatKind.nearest .f32 (k + (j : Int)))
theorem fl_ne (xs : List Nat) : ∀ r ∈ xs.map fl, r ≠ [] := by
  intro r hr
  obtain ⟨x, _, rfl⟩ := List.mem_map.1 hr
  exact fun h => by cases h
theorem marks32_ne (k : Int) (n : Nat) : ∀ r ∈ marks32 k n, r ≠ [] := by
  intro r hr
  obtain ⟨x, _, rfl⟩ := List.mem_map.1 hr
  exact fun h => by cases h
@[simp] theorem marks32_len (k : Int) (n : Nat) : (marks32 k n).length = n := by simp [marks32]
theorem marks32_get {k : Int} {n i : Nat} (h : i < n) : (marks32 k n)[i]? = some [mark32 k i] := by simp [marks32, h, fl, mark32]
theorem Sl.marks {s : Sg} {k : Int} {n i : Nat} {b off : Nat} (h : Sl s 1 (some ⟨b, off, none⟩) (marks32 k n)) (hi : i < n) : Rd s b (off + i * 1) (mark32 k i) := by
  obtain ⟨b', off', hp, hr⟩ := h.get (marks32_get hi)
  cases hp
  exact hr.one
theorem Sl.of_mkc {s : Sg} {b e n : Nat} {k : Int} {cs : List Value} (h : s b = some (e, mkc (mark32 k) cs n)) (hn : n ≤ cs.length) : Sl s 1 (some ⟨b, 0, none⟩) (marks32 k n) := by
  refine .inr ⟨b, 0, rfl, fun i r hr j v hj => ⟨e, _, h, ?_⟩⟩
  have hi : i < n := by
    have := (List.getElem?_eq_some_iff.1 hr).1
    rwa [marks32_len] at this
  rw [marks32_get hi] at hr
  cases hr
  have hj0 : j = 0 := by
    have := (List.getElem?_eq_some_iff.1 hj).1
    simpa using this
  subst hj0
  cases hj
  rw [show 0 + i * 1 + 0 = i by omega]
  exact mkc_get _ _ _ _ hi hn
end Go.Proofs.Ytnonlibekcacgaa.En
