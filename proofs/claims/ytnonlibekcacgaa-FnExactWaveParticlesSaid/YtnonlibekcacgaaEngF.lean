/-
  The engine: slices that are read, slices that grow, the step from a law's contract to its statement.
-/
import Derived.Test.YtnonlibekcacgaaEngE
namespace Go.Proofs.Ytnonlibekcacgaa.En
open Go
set_option linter.unusedVariables false
section
variable {P : Program} {w0 : World} {N : Nat} {ty : TypeId} {t : Fr} {σ : Sg}

theorem Rd.ext {σ σ' : Sg} {b off : Nat} {v : Value} (h : Rd σ b off v) (hx : Ext σ σ') : Rd σ' b off v :=
  let ⟨e, cs, hb, ho⟩ := h; ⟨e, cs, hx _ _ hb, ho⟩
theorem Rds.ext {σ σ' : Sg} {b off : Nat} {vs : List Value} (h : Rds σ b off vs) (hx : Ext σ σ') : Rds σ' b off vs := fun j v hv => (h j v hv).ext hx
/-- behind this slice's head lie these rows of cells, k cells a row -/
def Sl (σ : Sg) (k : Nat) (p : Option Addr) (rows : List (List Value)) : Prop := rows = [] ∨ ∃ b off, p = some ⟨b, off, none⟩ ∧ ∀ i r, rows[i]? = some r → Rds σ b (off + i * k) r
theorem Sl.ext {σ σ' : Sg} {k : Nat} {p : Option Addr} {rows : List (List Value)} (h : Sl σ k p rows) (hx : Ext σ σ') : Sl σ' k p rows := by
  rcases h with h | ⟨b, off, hp, h⟩
  · exact .inl h
  · exact .inr ⟨b, off, hp, fun i r hr => (h i r hr).ext hx⟩
theorem Sl.get {k : Nat} {p : Option Addr} {rows : List (List Value)} (h : Sl σ k p rows) {i : Nat} {r : List Value} (hr : rows[i]? = some r) : ∃ b off, p = some ⟨b, off, none⟩ ∧ Rds σ b (off + i * k) r := by
  rcases h with rfl | ⟨b, off, hp, h⟩
  · simp at hr
  · exact ⟨b, off, hp, h i r hr⟩
theorem Rds.one {b off : Nat} {v : Value} (h : Rds σ b off [v]) : Rd σ b off v := h 0 v rfl
theorem Rds.cons {b off : Nat} {v : Value} {vs : List Value} (h : Rds σ b off (v :: vs)) : Rd σ b off v ∧ Rds σ b (off + 1) vs :=
  ⟨h 0 v rfl, fun j u hu => by have := h (j + 1) u (by simpa using hu); rwa [show off + 1 + j = off + (j + 1) by omega]⟩

/-- a slice of the call's own: nil, or from a tracked block's head on -/
def Own (w0 : World) (σ : Sg) (e : TypeId) (size : Nat) (v : Value) (n : Nat) (xs : List Value) : Prop :=
  xs.length = n * size ∧ ((v = .slice none 0 0 ∧ n = 0) ∨ ∃ g cap cur, v = .slice (some ⟨g, 0, none⟩) n cap ∧ w0.heap.size ≤ g ∧ σ g = some (e, cur) ∧ n ≤ cap ∧ cap ≤ maxLen ∧ cur.length = cap * size ∧ cur.take (n * size) = xs)
theorem Own.nil (e : TypeId) (size : Nat) : Own w0 σ e size (.slice none 0 0) 0 [] := ⟨by simp, .inl ⟨rfl, rfl⟩⟩
theorem Own.ext {σ' : Sg} {e : TypeId} {size : Nat} {v : Value} {n : Nat} {xs : List Value} (h : Own w0 σ e size v n xs) (hx : Ext σ σ') : Own w0 σ' e size v n xs := by
  refine ⟨h.1, ?_⟩
  rcases h.2 with h2 | ⟨g, cap, cur, h1, h2, h3, h4⟩
  · exact .inl h2
  · exact .inr ⟨g, cap, cur, h1, h2, hx _ _ h3, h4⟩
/-- what a growing slice leaves of the tracked blocks: all but its own old one -/
def Grew (σ σ' : Sg) (v v' : Value) : Prop := (∀ b x, σ b = some x → v.ownBlock ≠ some b → σ' b = some x) ∧ (∀ b, v'.ownBlock = some b → v.ownBlock = some b ∨ σ b = none)

theorem o_append {s x : Operand} {T e : TypeId} {info : TypeInfo} {z : Value} {size bytes : Nat} {v : Value} {n m c b off : Nat} {xs news : List Value} (hu : P.underlying T = some (.slice e)) (hi : P.info? e = some info) (hz : info.zero = some z) (hsize : info.size = size) (hby : info.bytes = bytes)
    (hzs : z.cells.size = size) (hs : ev N t s = v) (hown : Own w0 σ e size v n xs) (hx : ev N t x = .slice (some ⟨b, off, none⟩) m c) (hm0 : 0 < m) (hl : news.length = m * size) (hnews : Rds σ b off news) (h1 : ∀ u ∈ news, u.oneCell' = true)
    (h63 : n + m ≤ maxLen) (hbytes : (n + m) * bytes ≤ 140737488355328) :
    OpE P w0 N (.call ⟨.builtin .append, #[s, x], #[T, T]⟩) ty t σ fun v' σ' => Own w0 σ' e size v' (n + m) (xs ++ news) ∧ Grew σ σ' v v' := by
  subst hsize
  subst hby
  intro a w hr hsat
  obtain ⟨us, hul, hun, huc⟩ := hsat.cells hnews
  have hbase : w0.heap.size ≤ w.heap.size := hsat.below.size
  have hsmall : n + m ≤ 9223372036854775807 := by simp only [maxLen] at h63; omega
  have hlen : (xs ++ news).length = (n + m) * info.size := by rw [List.length_append, hown.1, hl, Nat.add_mul]
  have hv : a.eval s = v := by
    have h0 := hr.eval s
    rw [hs] at h0
    rcases hown.2 with ⟨rfl, _⟩ | ⟨g, cap, cur, rfl, _⟩
    · exact sim_slice h0
    · exact sim_slice h0
  have hnews' : ∀ j u, us[j]? = some u → w.cell? ((⟨b, off, none⟩ : Addr).add j) = some u := fun j u hj => by rw [addr_add]; exact huc j u hj
  have husl : us.length = m * info.size := by rw [hul, hl]
  have hexec : ∀ v' w', (Builtin.append_ #[T, T] ty #[v, .slice (some ⟨b, off, none⟩) m c]).run P w = .ok v' w' → (execOp a.eval ⟨none, .call ⟨.builtin .append, #[s, x], #[T, T]⟩, ty, "", #[], none⟩).run P w = .ok (.value v') w' := fun v' w' hrun => by
    simp only [execOp, resolve, invoke, builtin, Sem.run_bind, Sem.run_pure, Result.andThen_ok, List.map_toArray, List.map_cons, List.map_nil, hv, hr.slice hx, hrun]
  -- a new block
  have grown : ∀ (old : Nat) (ys : List Value), old < n + m → ys.map n0 = xs.map n0 → (∀ k y, σ k = some y → v.ownBlock ≠ some k → σ k = some y) →
      ∃ u σ', norm (.slice (some ⟨w.heap.size, 0, none⟩) (n + m) (grownCap w (n + m) old e)) = norm u ∧ Sat w0 σ' (w.drew.alloc (.cells (ys.toArray ++ us.toArray ++ Builtin.zeroCells z.cells (grownCap w (n + m) old e - (n + m))) e)) ∧
        Own w0 σ' e info.size u (n + m) (xs ++ news) ∧ Grew σ σ' v u := fun old ys ho hys _ => by
    have hge := grownCap_ge w (n + m) old e
    have hcm : grownCap w (n + m) old e ≤ maxLen := grownCap_le_maxLen w (n + m) old e h63
    have hd : Sat w0 σ w.drew := hsat.drawn _
    have hnew := hd.new (ys.toArray ++ us.toArray ++ Builtin.zeroCells z.cells (grownCap w (n + m) old e - (n + m))) e (xs ++ news ++ (Builtin.zeroCells z.cells (grownCap w (n + m) old e - (n + m))).toList) (by simp [hys, hun])
    refine ⟨_, _, rfl, hnew, ⟨hlen, .inr ⟨w.heap.size, _, _, rfl, hbase, sg_eq _ _ _, hge, hcm, ?_, ?_⟩⟩, fun k y hk _ => sg_keep hsat.fresh hk, fun k hk => .inr ?_⟩
    · simp only [List.length_append, hown.1, hl, Array.length_toList, size_zeroCells, hzs, ← Nat.add_mul]
      congr 1
      omega
    · rw [← hlen, List.append_assoc (as := xs), ← List.append_assoc]
      exact List.take_left
    · simp [Value.ownBlock] at hk
      subst hk
      exact hsat.fresh
  rcases hown.2 with ⟨rfl, rfl⟩ | ⟨g, cap, cur, rfl, hg, hgg, hncap, hcap, hcl, htake⟩
  · have hx0 : xs = [] := List.eq_nil_of_length_eq_zero (by simpa using hown.1)
    subst hx0
    simp only [Nat.zero_add] at *
    have hr0 := run_append_nil (P := P) w T ty e info z hu hi hz ⟨b, off, none⟩ m c us husl hnews' hm0 (by omega) (by omega)
    rw [hexec _ _ hr0]
    obtain ⟨u, σ', k1, k2, k3, k4⟩ := grown 0 [] hm0 rfl (fun k y h _ => h)
    simp only [Array.empty_append] at k2
    exact ⟨u, σ', k1, k2, k3, k4⟩
  · obtain ⟨c', f, hc', hcs, hf⟩ := hsat.own g e cur hgg
    have hf' := hf hg
    subst hf'
    have hcl' : c'.size = cur.length := by simpa using congrArg List.length hcs
    by_cases hroom : n + m ≤ cap
    · have hfit : n * info.size + us.length ≤ c'.size := by rw [husl, hcl', hcl, ← Nat.add_mul]; exact Nat.mul_le_mul_right _ hroom
      have hr0 := run_append_room (P := P) w T ty e info hu hi g n cap c' hc' ⟨b, off, none⟩ m c us husl hnews' (ones_of hun h1) hroom hfit
      rw [hexec _ _ hr0]
      refine ⟨_, sg σ g (e, cur.take (n * info.size) ++ news ++ cur.drop (n * info.size + news.length)), rfl, ⟨⟨hsat.below.os, hsat.below.tape, hsat.below.output, ?_, fun k hk => ?_⟩, fun k e' cs' hk => ?_⟩, ⟨hlen, .inr ⟨g, cap, _, rfl, hg, sg_eq _ _ _, hroom, hcap, ?_, ?_⟩⟩, fun k y hk hne => ?_, fun k hk => .inl hk⟩
      · simp only [World.setRow, Array.size_modify]; exact hbase
      · rw [setRow_other _ _ _ _ (by omega)]; exact hsat.below.block k hk
      · by_cases hkg : k = g
        · subst hkg
          rw [sg_eq] at hk
          cases hk
          refine ⟨_, (0, 0), setRow_heap w k c' _ e _ hc', ?_, fun _ => rfl⟩
          simp only [List.map_append, List.map_take, List.map_drop, hcs, hun, hul]
        · rw [sg_ne hkg] at hk
          obtain ⟨c2, f2, k1, k2⟩ := hsat.own k e' cs' hk
          exact ⟨c2, f2, by rw [setRow_other _ _ _ _ hkg]; exact k1, k2⟩
      · have e1 := Nat.mul_le_mul_right info.size hroom
        simp only [List.length_append, List.length_take, List.length_drop]
        rw [hl, hcl]
        rw [Nat.add_mul] at e1
        omega
      · rw [htake, ← hlen]
        exact List.take_left
      · rw [sg_ne (fun e => hne (by simp [Value.ownBlock, e]))]; exact hk
    · have holds : ∀ j u, (c'.toList.take (n * info.size))[j]? = some u → w.cell? ((⟨g, 0, none⟩ : Addr).add j) = some u := fun j u hj => by
        rw [addr_add, Nat.zero_add]
        rw [List.getElem?_take] at hj
        split at hj
        · simp only [World.cell?, hc']
          simpa using hj
        · cases hj
      have hle : n * info.size ≤ cap * info.size := Nat.mul_le_mul_right _ hncap
      have hr0 := run_append_grow (P := P) w T ty e info z hu hi hz ⟨g, 0, none⟩ n cap (c'.toList.take (n * info.size)) (by simp only [List.length_take, Array.length_toList]; omega) holds ⟨b, off, none⟩ m c us husl hnews' (by omega) (by omega) (growslice_fits (by omega) hbytes)
      rw [hexec _ _ hr0]
      obtain ⟨u, σ', k1, k2, k3, k4⟩ := grown cap (c'.toList.take (n * info.size)) (by omega) (by rw [List.map_take, hcs, ← List.map_take, htake]) (fun k y h _ => h)
      exact ⟨u, σ', k1, k2, k3, k4⟩
end
end Go.Proofs.Ytnonlibekcacgaa.En
