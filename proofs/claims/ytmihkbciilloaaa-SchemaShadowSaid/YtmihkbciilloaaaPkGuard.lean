/- Of the proofs of Ytmihkbciilloaaa; see NOTES.md. -/
import Derived.Test.YtmihkbciilloaaaPkDeep
import Derived.Test.YtmihkbciilloaaaPkTree2
/-! Appends under a guard that holds; a slice of rules as cells. -/
namespace Go.PK
open Go Go.RowKit
set_option linter.unusedVariables false
section
variable {P : Program} {n : Nat} {l : List (Nat × Value)} {own : List (Nat × Obj)} {ro : List Snap} {lops : List Oper} {Q : Exit → Act → World → Prop} {K : Act → World → Prop}
  {rest : List (Option Bool × Nat)} {k : Option Bool} {i d : Nat} {ty : TypeId} {pos : String} {af : Array Edge} {x y : Operand} {t : TypeId}
theorem x_append_any_g {e : TypeId} {z : Value} {size bytes m len c2 jj dj : Nat} {want : Bool} {ao : Option Addr} {xs news : List Value} (l1 : List (Nat × Obj)) {l2 : List (Nat × Obj)} (r : RowS) (ho : lops[i]? = some ⟨some d, .call ⟨.builtin .append, #[x, y], #[t, t]⟩, ty, pos, af, some (jj, want)⟩) (hj : (lops[jj]?).bind (·.dst) = some dj) (hb : l.lookup dj = some (.bool want)) (hd : decide (d < n) = true)
    (hx : ev l x = some (rowV r len)) (hy : ev l y = some (.slice ao m c2)) (hown : own = l1 ++ rowO e r ++ l2) (hr : rowOK size r len xs)
    (ht : P.underlying t = some (.slice e)) (hi : (P.info? e).map (fun j => (j.zero, j.size, j.bytes)) = some (some z, size, bytes)) (hz : (decide (z.cells.size = size) && decide (0 < size)) = true)
    (hl : news.length = m * size) (hno : ao = none → m = 0) (hat : ∀ w, Mem w own ro → ∀ a, ao = some a → ∀ j u, news[j]? = some u → w.cell? (a.add j) = some u) (h1 : news.all (fun u => u.oneCell') = true)
    (hb1 : len + m ≤ maxLen) (hb2 : (len + m) * bytes ≤ 140737488355328)
    (h : ∀ r', rowOK size r' (len + m) (xs ++ news) → WX P lops.toArray Q K rest n ((d, rowV r' (len + m)) :: l) (l1 ++ rowO e r' ++ l2) ro) : WX P lops.toArray Q K ((none, i) :: rest) n l own ro := by
  intro a w ha hw
  have hd' : d < n := of_decide_eq_true hd
  have hw1 := go_some (lops := lops) (n := n) (l := l) (o := ⟨some d, .call ⟨.builtin .append, #[x, y], #[t, t]⟩, ty, pos, af, some (jj, want)⟩) rfl hj hb a ha
  simp only [wpX, List.getElem?_toArray, ho]
  intro w' hl'
  rw [if_pos hw1]
  have hM0 := hw.later hl'
  have hat' := hat w' hM0
  subst hown
  have hM := hM0
  obtain ⟨inf, hi1, hi2⟩ := Option.map_eq_some_iff.1 hi
  simp only [Prod.mk.injEq] at hi2
  obtain ⟨hiz, his, hib⟩ := hi2
  simp only [Bool.and_eq_true, decide_eq_true_eq] at hz
  unfold Oper.wp execOp
  cases ao with
  | none =>
    have hm0 := hno rfl
    subst hm0
    have hnews : news = [] := List.eq_nil_of_length_eq_zero (by simpa using hl)
    subst hnews
    have hrun := run_append_empty (P := P) (w := w') 0 t ty e inf size c2 ht hi1 (rowV r len) len xs (row_owns (own := []) hM hr)
    simp only [resolve, invoke, builtin, Sem.run_bind, Sem.run_pure, Result.andThen_ok, List.map_toArray, List.map_cons, List.map_nil, ha.eval hx, ha.eval hy, hrun]
    exact h r (by simpa using hr) _ _ (ha.put _ hd') hM
  | some a0 =>
    obtain ⟨v', w2, hrun, h2, h3, _, h5⟩ := run_append_own_at (P := P) w' 0 t ty e inf z size bytes ht hi1 hiz his hib hz.1 hz.2 (rowV r len) len xs (row_owns (own := []) hM hr) a0 m c2 news hl
      (hat' a0 rfl) (by simpa using h1) hb1 hb2 (Nat.zero_le _)
    obtain ⟨r', rfl, hok, hM2⟩ := hM.append h2 h3 h5
    simp only [resolve, invoke, builtin, Sem.run_bind, Sem.run_pure, Result.andThen_ok, List.map_toArray, List.map_cons, List.map_nil, ha.eval hx, ha.eval hy, hrun]
    exact h r' hok _ _ (ha.put _ hd') hM2
theorem x_buildSlice0_g {e : TypeId} {m jj dj : Nat} {want : Bool} (ho : lops[i]? = some ⟨some d, .buildSlice t 0 #[], ty, pos, af, some (jj, want)⟩) (hj : (lops[jj]?).bind (·.dst) = some dj) (hb : l.lookup dj = some (.bool want)) (hk : (k == some true) = false) (hd : decide (d < n) = true)
    (ht : P.underlying t = some (.slice e)) (hs : (P.info? e).map (·.size) = some m)
    (h : ∀ b, WX P lops.toArray Q K rest n ((d, .slice (some ⟨b, 0, none⟩) 0 0) :: l) ((b, .cells #[] e) :: own) ro) : WX P lops.toArray Q K ((k, i) :: rest) n l own ro :=
  x_new (f := fun b => .slice (some ⟨b, 0, none⟩) 0 0) ho (go_some rfl hj hb) rfl hk hd (fun A w ha hw => by
    simp [execOp, Instr.buildSlice, Sem.run_bind, run_underlying ht, Result.andThen_ok, run_sizeOf hs, Instr.fill, newRow, show ∀ g : Nat → Value, Array.map g (Array.range 0) = #[] from fun g => Array.eq_empty_of_size_eq_zero (by simp)]) h
end
theorem tyRl_cells {D : Nat → Prop} {w : World} : ∀ {css : List (List Value)} {xs : List Rl}, css.length = xs.length → (∀ j (h1 : j < css.length) (h2 : j < xs.length), tyRl.rd D w css[j] xs[j]) → css.flatten = xs.flatMap Rl.cells ∧ ∀ s ∈ xs, s.ok
  | [], [], _, _ => ⟨rfl, by simp⟩
  | c :: css, x :: xs, hl, h => by
    have h0 := h 0 (by simp) (by simp)
    have ih := tyRl_cells (css := css) (xs := xs) (by simpa using hl) (fun j h1 h2 => h (j + 1) (by simpa using h1) (by simpa using h2))
    obtain ⟨he, hok⟩ := h0
    simp only [List.getElem_cons_zero] at he hok
    refine ⟨by rw [List.flatten_cons, List.flatMap_cons, ih.1, he]; rfl, fun s hs => ?_⟩
    rcases List.mem_cons.1 hs with rfl | hs
    · exact hok
    · exact ih.2 s hs
theorem rlC_one (xs : List Rl) : (xs.flatMap Rl.cells).all (fun u => u.oneCell') = true := by
  rw [List.all_eq_true]
  intro u hu
  obtain ⟨s, _, hs⟩ := List.mem_flatMap.1 hu
  simp only [Rl.cells, List.mem_cons, List.not_mem_nil, or_false] at hs
  rcases hs with rfl | rfl | rfl | rfl | rfl | rfl | rfl <;> rfl
/-- A rule with no effect but for Must. -/
def dull (y : Rl) : Rl := { y with must := false, once := !y.once, codes := ⟨#[122]⟩, single := ⟨#[97, 98, 99]⟩ }
theorem dull_ok {y : Rl} (h : y.ok) : (dull y).ok := ⟨h.1, h.2.1, h.2.2.1, (by decide : (1 : Nat) ≤ 9223372036854775807), (by decide : (3 : Nat) ≤ 9223372036854775807)⟩
theorem fpb_dull (rs : List Rl) (fs : List Fl) (f : Fl) (n : Nat) : fpb (rs ++ rs.map dull) fs f n = fpb rs fs f n := by
  unfold fpb
  split
  · rw [List.findIdx?_append]
    cases hf : rs.findIdx? (fun r => mtc r.tag f.tag) with
    | some i =>
      have hi := (List.findIdx?_eq_some_iff_getElem.1 hf).1
      simp only [Option.some_or]
      rw [List.getElem?_append_left hi]
    | none =>
      have h2 : (rs.map dull).findIdx? (fun r => mtc r.tag f.tag) = none := by
        rw [List.findIdx?_eq_none_iff] at hf ⊢
        intro x hx
        obtain ⟨y, hy, rfl⟩ := List.mem_map.1 hx
        exact hf y hy
      rw [h2]
      rfl
  · rfl
theorem chk_dull (rs : List Rl) (fs : List Fl) : chk (rs ++ rs.map dull) fs = chk rs fs := by
  have hF : ∀ k, chkF (rs ++ rs.map dull) fs k = chkF rs fs k := by
    intro k
    induction k with
    | zero => rfl
    | succ k ih =>
      unfold chkF
      rw [ih]
      cases fs[k]? with
      | none => rfl
      | some f => simp only [fpb_dull]
  have hM : ∀ k, k ≤ rs.length → chkM (rs ++ rs.map dull) fs k = chkM rs fs k := by
    intro k
    induction k with
    | zero => intro _; exact hF _
    | succ k ih =>
      intro hk
      rw [chkM_succ (show k < (rs ++ rs.map dull).length by rw [List.length_append]; omega), chkM_succ (show k < rs.length by omega), ih (by omega), List.getElem_append_left (by omega)]
  have hM2 : ∀ k, k ≤ rs.length → chkM (rs ++ rs.map dull) fs (rs.length + k) = chkM rs fs rs.length := by
    intro k
    induction k with
    | zero => intro _; exact hM _ (Nat.le_refl _)
    | succ k ih =>
      intro hk
      rw [← Nat.add_assoc, chkM_succ (show rs.length + k < (rs ++ rs.map dull).length by rw [List.length_append, List.length_map]; omega), ih (by omega), List.getElem_append_right (by omega)]
      have hlt : rs.length + k - rs.length < (rs.map dull).length := by rw [List.length_map]; omega
      have : mpb fs (rs.map dull)[rs.length + k - rs.length] = [] := by
        rw [List.getElem_map]; unfold mpb dull; simp
      rw [this, List.append_nil]
  unfold chk
  rw [List.length_append, List.length_map]
  exact hM2 _ (Nat.le_refl _)
end Go.PK
