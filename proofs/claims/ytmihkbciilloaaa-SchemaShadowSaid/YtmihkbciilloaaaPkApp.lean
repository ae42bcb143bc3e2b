/- Of the proofs of Ytmihkbciilloaaa; see NOTES.md. -/
import Derived.Test.YtmihkbciilloaaaPkCtl
import Derived.Maps.AppendAt
namespace Go.PK
open Go Go.RowKit
set_option linter.unusedVariables false
set_option linter.unusedSimpArgs false

/-- A row that the call appends to: nil, or a block with its cells and its capacity. -/
abbrev RowS := Option (Nat × List Value × Nat)
def rowA (r : RowS) : Option Addr := r.map fun x => ⟨x.1, 0, none⟩
def rowC (r : RowS) : Nat := match r with | none => 0 | some x => x.2.2
/-- Its value, with n elements. -/
def rowV (r : RowS) (n : Nat) : Value := .slice (rowA r) n (rowC r)
def rowO (e : TypeId) (r : RowS) : List (Nat × Obj) := match r with | none => [] | some x => [(x.1, .cells x.2.1.toArray e (0, 0))]
/-- It holds the cells xs. -/
def rowOK (size : Nat) (r : RowS) (n : Nat) (xs : List Value) : Prop :=
  xs.length = n * size ∧ match r with | none => n = 0 | some x => n ≤ x.2.2 ∧ x.2.2 ≤ maxLen ∧ x.2.1.length = x.2.2 * size ∧ x.2.1.take (n * size) = xs
theorem rowOK_nil {size : Nat} : rowOK size none 0 [] := ⟨by simp, rfl⟩
/-- A row that was written out. -/
theorem rowOK_lit {size n b : Nat} {cs : List Value} (h : cs.length = n * size) (hm : n ≤ maxLen) : rowOK size (some (b, cs, n)) n cs := ⟨h, Nat.le_refl _, hm, h, by rw [← h, List.take_length]⟩
theorem rowOK.cell {size : Nat} {r : RowS} {n : Nat} {xs : List Value} (h : rowOK size r n xs) {j : Nat} (hj : j < xs.length) : ∃ b cs c, r = some (b, cs, c) ∧ cs[j]? = some xs[j] := by
  obtain ⟨h1, h2⟩ := h
  cases r with
  | none => simp only at h2; subst h2; simp at h1; subst h1; simp at hj
  | some x =>
    obtain ⟨b, cs, c⟩ := x
    obtain ⟨_, _, h3, h4⟩ := h2
    refine ⟨b, cs, c, rfl, ?_⟩
    subst h4
    rw [List.getElem_take, List.getElem?_eq_getElem]

section
variable {w w' : World} {ro : List Snap}
theorem row_owns {own l1 l2 : List (Nat × Obj)} {e : TypeId} {size n : Nat} {r : RowS} {xs : List Value} (hm : Mem w (l1 ++ rowO e r ++ l2) ro) (h : rowOK size r n xs) :
    w.ownsRow 0 e size (rowV r n) n xs := by
  obtain ⟨h1, h2⟩ := h
  refine ⟨h1, ?_⟩
  cases r with
  | none => left; simp only at h2; subst h2; exact ⟨rfl, rfl⟩
  | some x =>
    obtain ⟨b, cs, c⟩ := x
    obtain ⟨h3, h4, h5, h6⟩ := h2
    exact .inr ⟨b, c, cs.toArray, rfl, Nat.zero_le _, hm.own_at (b, _) (by simp [rowO]), h3, h4, by simpa using h5, by simpa using h6⟩
theorem heap_fresh {k : Nat} (h : k < w.heap.size) : k ≠ w.heap.size := by omega
/-- Behind an append. -/
theorem Mem.append {l1 l2 : List (Nat × Obj)} {e : TypeId} {size n n' : Nat} {r : RowS} {v' : Value} {xs' : List Value} (hm : Mem w (l1 ++ rowO e r ++ l2) ro) (h' : w'.ownsRow 0 e size v' n' xs') (hg : w.grownBy w' (rowV r n).ownBlock)
    (hb : v'.ownBlock = (rowV r n).ownBlock ∨ v'.ownBlock = some w.heap.size) : ∃ r', v' = rowV r' n' ∧ rowOK size r' n' xs' ∧ Mem w' (l1 ++ rowO e r' ++ l2) ro := by
  have hkeep : ∀ k, k < w.heap.size → (∀ b cs c, r = some (b, cs, c) → k ≠ b) → w'.heap[k]? = w.heap[k]? := fun k hk hne => hg.block k hk (by
    cases r with
    | none => simp [rowV, rowA, Value.ownBlock]
    | some x => obtain ⟨b, cs, c⟩ := x; simpa [rowV, rowA, Value.ownBlock] using hne b cs c rfl)
  -- the blocks beside the row
  have hside : ∀ p, p ∈ l1 ∨ p ∈ l2 → p.1 < w.heap.size ∧ w.heap[p.1]? = some p.2 ∧ ∀ b cs c, r = some (b, cs, c) → p.1 ≠ b := by
    intro p hp
    have hmem : p ∈ l1 ++ rowO e r ++ l2 := by
      rcases hp with hp | hp <;> simp [hp]
    refine ⟨hm.lt hmem, hm.own_at p hmem, fun b cs c hr he => ?_⟩
    subst hr
    have hnd := hm.own_nd
    simp only [rowO, List.map_append, List.map_cons, List.map_nil] at hnd
    rw [List.nodup_append, List.nodup_append] at hnd
    obtain ⟨⟨_, _, h3⟩, _, h4⟩ := hnd
    rcases hp with hp | hp
    · exact h3 p.1 (List.mem_map_of_mem hp) b (by simp) he
    · exact h4 b (by simp) p.1 (List.mem_map_of_mem hp) he.symm
  have hro_st : ∀ s ∈ ro, w'.os = s.1.os ∧ w'.tape = s.1.tape ∧ w'.output = s.1.output ∧ s.1.heap.size ≤ w'.heap.size := fun s hs => by
    obtain ⟨a1, a2, a3, a4⟩ := hm.ro_st s hs
    exact ⟨hg.os.trans a1, hg.tape.trans a2, hg.output.trans a3, Nat.le_trans a4 hg.size⟩
  have hro_at : ∀ s ∈ ro, ∀ k, s.2 k → k < s.1.heap.size → w'.heap[k]? = s.1.heap[k]? := fun s hs k hk hlt => by
    refine (hkeep k (Nat.lt_of_lt_of_le hlt (hm.ro_st s hs).2.2.2) fun b cs c hr he => ?_).trans (hm.ro_at s hs k hk hlt)
    subst hr
    have := hm.apart (b, Obj.cells cs.toArray e (0, 0)) (by simp [rowO]) s hs (by rw [← he]; exact hk)
    simp only at this
    omega
  have hmid : ∀ b, ((∃ cs c, r = some (b, cs, c)) ∨ b = w.heap.size) → ∀ s ∈ ro, s.2 b → s.1.heap.size ≤ b := fun b hb s hs hd => by
    rcases hb with ⟨cs, c, rfl⟩ | rfl
    · exact hm.apart (b, Obj.cells cs.toArray e (0, 0)) (by simp [rowO]) s hs hd
    · exact (hm.ro_st s hs).2.2.2
  obtain ⟨h1, h2⟩ := h'
  rcases h2 with ⟨rfl, rfl⟩ | ⟨g, cap, cur, rfl, _, hh, hnc, hcm, hcs, htk⟩
  · refine ⟨none, rfl, ⟨h1, rfl⟩, ?_, ?_, hro_st, hro_at, ?_⟩
    · intro p hp
      have hp' : p ∈ l1 ∨ p ∈ l2 := by simpa [rowO] using hp
      obtain ⟨a1, a2, a3⟩ := hside p hp'
      exact (hkeep p.1 a1 a3).trans a2
    · have hnd := hm.own_nd
      simp only [rowO, List.append_nil]
      exact ((List.sublist_append_left l1 (rowO e r)).append (List.Sublist.refl l2) |>.map _).nodup hnd
    · intro p hp s hs hd
      have hp' : p ∈ l1 ∨ p ∈ l2 := by simpa [rowO] using hp
      exact hm.apart p (by rcases hp' with h | h <;> simp [h]) s hs hd
  · have hgb : (∃ cs c, r = some (g, cs, c)) ∨ g = w.heap.size := by
      rcases hb with hb | hb
      · cases r with
        | none => simp [rowV, rowA, Value.ownBlock] at hb
        | some x => obtain ⟨b, cs, c⟩ := x; simp [rowV, rowA, Value.ownBlock] at hb; subst hb; exact .inl ⟨cs, c, rfl⟩
      · simp [Value.ownBlock] at hb; exact .inr hb
    have hgne : ∀ p, p ∈ l1 ∨ p ∈ l2 → p.1 ≠ g := fun p hp he => by
      obtain ⟨a1, _, a3⟩ := hside p hp
      rcases hgb with ⟨cs, c, hr⟩ | hg'
      · exact a3 g cs c hr he
      · omega
    refine ⟨some (g, cur.toList, cap), by simp [rowV, rowA, rowC], ⟨h1, hnc, hcm, by simpa using hcs, htk⟩, ?_, ?_, hro_st, hro_at, ?_⟩
    · intro p hp
      simp only [rowO, List.mem_append, List.mem_singleton] at hp
      rcases hp with (hp | rfl) | hp
      · obtain ⟨a1, a2, a3⟩ := hside p (.inl hp); exact (hkeep p.1 a1 a3).trans a2
      · simpa using hh
      · obtain ⟨a1, a2, a3⟩ := hside p (.inr hp); exact (hkeep p.1 a1 a3).trans a2
    · have hnd := hm.own_nd
      simp only [List.map_append] at hnd
      rw [List.nodup_append, List.nodup_append] at hnd
      obtain ⟨⟨b1, _, _⟩, b2, b3⟩ := hnd
      simp only [rowO, List.map_append, List.map_cons, List.map_nil]
      rw [List.nodup_append, List.nodup_append]
      refine ⟨⟨b1, by simp, fun x hx y hy => ?_⟩, b2, fun x hx y hy => ?_⟩
      · obtain ⟨p, hp, rfl⟩ := List.mem_map.1 hx
        simp only [List.mem_singleton] at hy
        subst hy
        exact hgne p (.inl hp)
      · simp only [List.mem_append, List.mem_singleton] at hx
        rcases hx with hx | rfl
        · exact b3 x (by simp [hx]) y hy
        · obtain ⟨p, hp, rfl⟩ := List.mem_map.1 hy
          exact fun e => hgne p (.inr hp) e.symm
    · intro p hp s hs hd
      simp only [rowO, List.mem_append, List.mem_singleton] at hp
      rcases hp with (hp | rfl) | hp
      · exact hm.apart p (by simp [hp]) s hs hd
      · exact hmid g hgb s hs hd
      · exact hm.apart p (by simp [hp]) s hs hd
end

section
variable {P : Program} {n : Nat} {l : List (Nat × Value)} {own : List (Nat × Obj)} {ro : List Snap} {lops : List Oper} {Q : Exit → Act → World → Prop} {K : Act → World → Prop}
  {rest : List (Option Bool × Nat)} {k : Option Bool} {i d : Nat} {op : Op} {ty : TypeId} {pos : String} {af : Array Edge} {x y : Operand} {t : TypeId}
/-- 'append(s, news...)' onto a row of the call's own. -/
theorem x_append {e : TypeId} {z : Value} {size bytes m len b2 o2 c2 : Nat} {xs news : List Value} (l1 : List (Nat × Obj)) {l2 : List (Nat × Obj)} (r : RowS) (ho : lops[i]? = some ⟨some d, .call ⟨.builtin .append, #[x, y], #[t, t]⟩, ty, pos, af, none⟩) (hd : decide (d < n) = true)
    (hx : ev l x = some (rowV r len)) (hy : ev l y = some (.slice (some ⟨b2, o2, none⟩) m c2)) (hown : own = l1 ++ rowO e r ++ l2) (hr : rowOK size r len xs)
    (ht : P.underlying t = some (.slice e)) (hi : (P.info? e).map (fun j => (j.zero, j.size, j.bytes)) = some (some z, size, bytes)) (hz : (decide (z.cells.size = size) && decide (0 < size)) = true)
    (hl : news.length = m * size) (hat : ∀ j (hj : j < news.length), At own ro b2 (o2 + j) news[j]) (h1 : news.all (fun u => u.oneCell') = true)
    (hb1 : len + m ≤ maxLen) (hb2 : (len + m) * bytes ≤ 140737488355328)
    (h : ∀ r', rowOK size r' (len + m) (xs ++ news) → WX P lops.toArray Q K rest n ((d, rowV r' (len + m)) :: l) (l1 ++ rowO e r' ++ l2) ro) : WX P lops.toArray Q K ((none, i) :: rest) n l own ro := by
  subst hown
  intro a w ha hw
  have hd' : d < n := of_decide_eq_true hd
  have hw1 := go_none (lops := lops) (n := n) (l := l) (o := ⟨some d, .call ⟨.builtin .append, #[x, y], #[t, t]⟩, ty, pos, af, none⟩) rfl a ha
  simp only [wpX, List.getElem?_toArray, ho]
  intro w' hl'
  rw [if_pos hw1]
  have hM := hw.later hl'
  obtain ⟨inf, hi1, hi2⟩ := Option.map_eq_some_iff.1 hi
  simp only [Prod.mk.injEq] at hi2
  obtain ⟨hiz, his, hib⟩ := hi2
  simp only [Bool.and_eq_true, decide_eq_true_eq] at hz
  obtain ⟨v', w2, hrun, h2, h3, _, h5⟩ := run_append_own_at (P := P) w' 0 t ty e inf z size bytes ht hi1 hiz his hib hz.1 hz.2 (rowV r len) len xs (row_owns (own := []) hM hr) ⟨b2, o2, none⟩ m c2 news hl
    (fun j u hu => by
      obtain ⟨hj, rfl⟩ := List.getElem?_eq_some_iff.1 hu
      rw [mk_add]
      exact hat j hj w' hM) (by simpa using h1) hb1 hb2 (Nat.zero_le _)
  obtain ⟨r', rfl, hok, hM2⟩ := hM.append h2 h3 h5
  unfold Oper.wp execOp
  simp only [resolve, invoke, builtin, Sem.run_bind, Sem.run_pure, Result.andThen_ok, List.map_toArray, List.map_cons, List.map_nil, ha.eval hx, ha.eval hy, hrun]
  exact h r' hok _ _ (ha.put _ hd') hM2
end
end Go.PK
