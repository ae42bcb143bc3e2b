/- Of the proofs of YtaniaihoodgmpaaGreatDoor: PkUnc3 PkUnc4 PkIter2 PkIter3 PkOpn PkInvS PkSerD PkBulk PkOrdT PkBulk2, put together. -/
import Derived.Test.YtaniaihoodgmpaaGreatDoorM2
import Derived.OrdersIn
import Derived.Test.YtaniaihoodgmpaaGreatDoorM1
/- Of the proofs of YtaniaihoodgmpaaGreatDoor; see NOTES.md. -/
/-! Lists read from bytes. -/
namespace Go.PK
open Go Go.RowKit
set_option linter.unusedVariables false
/-- A number is taken: its value, what is left, the error. -/
def inN (l : ByteArray) : Nat × ByteArray × Int := ((rnL (bl l)).1, l.extract (rnL (bl l)).2.1 l.size, (rnL (bl l)).2.2)
theorem rn_le (l : List UInt8) : (rnL l).2.1 ≤ l.length ∧ (rnL l).1 < 18446744073709551616 := by
  rcases rn_err l with h | ⟨h1, h2, _⟩
  · obtain ⟨_, _, h3, h4⟩ := rn_ok h; exact ⟨h3, h4⟩
  · rw [h1, h2]; exact ⟨Nat.zero_le _, by decide⟩
theorem ext_all (l : ByteArray) : l.extract 0 l.size = l := bl_inj (by rw [bl_ext, List.drop_zero, Nat.sub_zero, List.take_of_length_le (by rw [bl_len]; exact Nat.le_refl _)])
theorem ext_sz (l : ByteArray) {i : Nat} (h : i ≤ l.size) : (l.extract i l.size).size = l.size - i := by rw [ByteArray.size_extract]; omega
theorem in_err {l : ByteArray} (h : (inN l).2.2 ≠ 0) : (inN l).1 = 0 ∧ (inN l).2.1 = l ∧ ((inN l).2.2 = 10 ∨ (inN l).2.2 = 11) := by
  rcases rn_err (bl l) with h1 | ⟨h1, h2, h3⟩
  · exact absurd h1 h
  · exact ⟨h1, by unfold inN; dsimp only; rw [h2]; exact ext_all l, h3⟩
theorem in_ok {l : ByteArray} (h : (inN l).2.2 = 0) : bl l = numG (inN l).1 ++ bl (inN l).2.1 ∧ (inN l).2.1.size < l.size ∧ (inN l).1 < 18446744073709551616 := by
  obtain ⟨h1, h2, h3, h4⟩ := rn_ok h
  rw [bl_len] at h3
  have e : (inN l).2.1.size = l.size - (rnL (bl l)).2.1 := ext_sz l h3
  refine ⟨?_, by omega, h4⟩
  show bl l = numG (rnL (bl l)).1 ++ bl (l.extract (rnL (bl l)).2.1 l.size)
  rw [← h1, bl_ext, List.take_of_length_le (l := List.drop _ _) (by rw [List.length_drop, bl_len]; exact Nat.le_refl _), List.take_append_drop]
theorem in_le (l : ByteArray) : (inN l).2.1.size ≤ l.size ∧ (inN l).1 < 18446744073709551616 := by
  by_cases h : (inN l).2.2 = 0
  · obtain ⟨_, h1, h2⟩ := in_ok h; exact ⟨by omega, h2⟩
  · obtain ⟨h1, h2, _⟩ := in_err h; rw [h1, h2]; exact ⟨Nat.le_refl _, by decide⟩
theorem in_hit {n : Nat} (hn : n < 18446744073709551616) {l r : ByteArray} (h : bl l = numG n ++ bl r) : inN l = (n, r, 0) := by
  unfold inN
  rw [h, rn_hit hn]
  dsimp only
  have e : l.extract (numG n).length l.size = r := bl_inj (by
    rw [bl_ext, h, List.drop_left, List.take_of_length_le]
    have := congrArg List.length h
    rw [bl_len, List.length_append] at this
    omega)
  rw [e]
/-- A string is taken. -/
def nxQ (l : ByteArray) (out : List ByteArray) : ByteArray × Int × List ByteArray :=
  if (inN l).2.2 ≠ 0 then ((inN l).2.1, (inN l).2.2, out) else
  if (inN l).2.1.size < (inN l).1 then ((inN l).2.1, 10, out) else
  ((inN l).2.1.extract (inN l).1 (inN l).2.1.size, 0, out ++ [(inN l).2.1.extract 0 (inN l).1])
def unL : Nat → ByteArray → List ByteArray → ByteArray × Int × List ByteArray
  | 0, l, out => (l, 0, out)
  | m + 1, l, out => if (nxQ l out).2.1 = 0 then unL m (nxQ l out).1 (nxQ l out).2.2 else nxQ l out
def finU {α : Type} (q : ByteArray × Int × List α) : List α × Int := if q.2.1 ≠ 0 then ([], q.2.1) else if q.1 ≠ ⟨#[]⟩ then ([], 11) else (q.2.2, 0)
def unpQ (s : ByteArray) : List ByteArray × Int := finU (if (inN s).2.2 = 0 then unL (inN s).1 (inN s).2.1 [] else ((inN s).2.1, (inN s).2.2, []))
def riL : Nat → ByteArray → List Int → ByteArray × Int × List Int
  | 0, l, out => (l, 0, out)
  | m + 1, l, out => if (inN l).2.2 = 0 then riL m (inN l).2.1 (out ++ [uns (inN l).1]) else ((inN l).2.1, (inN l).2.2, out ++ [uns (inN l).1])
def riQ (s : ByteArray) : List Int × Int := finU (if (inN s).2.2 = 0 then riL (inN s).1 (inN s).2.1 [] else ((inN s).2.1, (inN s).2.2, []))
theorem nx_case (l : ByteArray) (out : List ByteArray) : ((nxQ l out).2.1 = 0 ∧ (inN l).2.2 = 0 ∧ (inN l).1 ≤ (inN l).2.1.size ∧ (nxQ l out).1.size < l.size ∧ (nxQ l out).2.2.length = out.length + 1) ∨ ((nxQ l out).2.1 ≠ 0 ∧ (nxQ l out).2.2 = out ∧ (nxQ l out).1.size ≤ l.size) := by
  have hle := in_le l
  unfold nxQ
  by_cases h : (inN l).2.2 = 0
  · obtain ⟨_, h1, h2⟩ := in_ok h
    rw [if_neg (fun h9 => h9 h)]
    by_cases h3 : (inN l).2.1.size < (inN l).1
    · rw [if_pos h3]; exact .inr ⟨by dsimp only; decide, rfl, hle.1⟩
    · rw [if_neg h3]
      refine .inl ⟨rfl, h, by omega, ?_, by simp⟩
      dsimp only
      rw [ext_sz _ (by omega)]; omega
  · rw [if_pos h]; exact .inr ⟨h, rfl, hle.1⟩
/-! What was written is read. -/
theorem un_hit : ∀ (xs : List ByteArray) (l r : ByteArray) (out : List ByteArray), (∀ s ∈ xs, s.size < 18446744073709551616) → bl l = (xs.flatMap fun s => numG s.size ++ bl s) ++ bl r → unL xs.length l out = (r, 0, out ++ xs)
  | [], l, r, out, _, h => by
    have : l = r := bl_inj (by simpa using h)
    rw [this, List.append_nil]; rfl
  | x :: xs, l, r, out, hs, h => by
    rw [List.flatMap_cons, List.append_assoc, List.append_assoc] at h
    have hx := hs x (List.mem_cons_self ..)
    have e : bl l = numG x.size ++ bl (⟨(bl x ++ ((xs.flatMap fun s => numG s.size ++ bl s) ++ bl r)).toArray⟩ : ByteArray) := by rw [bl_mk]; exact h
    have hi := in_hit hx e
    obtain ⟨y, hy⟩ : ∃ y : ByteArray, y = ⟨(bl x ++ ((xs.flatMap fun s => numG s.size ++ bl s) ++ bl r)).toArray⟩ := ⟨_, rfl⟩
    have hyb : bl y = bl x ++ ((xs.flatMap fun s => numG s.size ++ bl s) ++ bl r) := by rw [hy, bl_mk]
    rw [← hy] at hi
    have hys : x.size ≤ y.size := by have := congrArg List.length hyb; rw [bl_len, List.length_append, bl_len] at this; omega
    have e1 : y.extract 0 x.size = x := bl_inj (by rw [bl_ext, List.drop_zero, Nat.sub_zero, hyb, ← bl_len x, List.take_left])
    have hn : nxQ l out = (y.extract x.size y.size, 0, out ++ [x]) := by
      unfold nxQ
      rw [hi]
      dsimp only
      rw [if_neg (by decide), if_neg (by omega), e1]
    have e2 : bl (y.extract x.size y.size) = (xs.flatMap fun s => numG s.size ++ bl s) ++ bl r := by
      rw [bl_ext, hyb, ← bl_len x, List.drop_left, List.take_of_length_le]
      have := congrArg List.length hyb
      rw [List.length_append, bl_len] at this
      rw [bl_len] at this ⊢
      omega
    rw [List.length_cons, unL, hn]
    dsimp only
    rw [if_pos rfl, un_hit xs _ r _ (fun s h => hs s (List.mem_cons_of_mem _ h)) e2, List.append_assoc]; rfl
theorem unp_pack {xs : List ByteArray} (hl : xs.length < 18446744073709551616) (hs : ∀ s ∈ xs, s.size < 18446744073709551616) : unpQ ⟨(packG xs).toArray⟩ = (xs, 0) := by
  obtain ⟨y, hy⟩ : ∃ y : ByteArray, y = ⟨(xs.flatMap fun s => numG s.size ++ bl s).toArray⟩ := ⟨_, rfl⟩
  have hyb : bl y = xs.flatMap fun s => numG s.size ++ bl s := by rw [hy, bl_mk]
  have h1 := in_hit (n := xs.length) (l := ⟨(packG xs).toArray⟩) (r := y) hl (by rw [bl_mk, hyb]; rfl)
  unfold unpQ
  rw [h1]
  dsimp only
  rw [if_pos rfl, un_hit xs y ⟨#[]⟩ [] hs (by rw [hyb]; simp [bl])]
  rfl
theorem ri_hit : ∀ (xs : List Int) (l r : ByteArray) (out : List Int), (∀ n ∈ xs, -9223372036854775808 ≤ n ∧ n ≤ 9223372036854775807) → bl l = (xs.flatMap fun n => numG (sgn n)) ++ bl r → riL xs.length l out = (r, 0, out ++ xs)
  | [], l, r, out, _, h => by
    have : l = r := bl_inj (by simpa using h)
    rw [this, List.append_nil]; rfl
  | x :: xs, l, r, out, hs, h => by
    rw [List.flatMap_cons, List.append_assoc] at h
    have hx := hs x (List.mem_cons_self ..)
    obtain ⟨y, hy⟩ : ∃ y : ByteArray, y = ⟨((xs.flatMap fun n => numG (sgn n)) ++ bl r).toArray⟩ := ⟨_, rfl⟩
    have hyb : bl y = (xs.flatMap fun n => numG (sgn n)) ++ bl r := by rw [hy, bl_mk]
    have hi := in_hit (sgn_lt hx) (l := l) (r := y) (by rw [hyb]; exact h)
    rw [List.length_cons, riL, hi]
    dsimp only
    rw [if_pos rfl, ri_hit xs y r _ (fun n h => hs n (List.mem_cons_of_mem _ h)) hyb, uns_sgn, List.append_assoc]; rfl
theorem ri_ints {xs : List Int} (hl : xs.length < 18446744073709551616) (hs : ∀ n ∈ xs, -9223372036854775808 ≤ n ∧ n ≤ 9223372036854775807) : riQ ⟨(intsG xs).toArray⟩ = (xs, 0) := by
  obtain ⟨y, hy⟩ : ∃ y : ByteArray, y = ⟨(xs.flatMap fun n => numG (sgn n)).toArray⟩ := ⟨_, rfl⟩
  have hyb : bl y = xs.flatMap fun n => numG (sgn n) := by rw [hy, bl_mk]
  have h1 := in_hit (n := xs.length) (l := ⟨(intsG xs).toArray⟩) (r := y) hl (by rw [bl_mk, hyb]; rfl)
  unfold riQ
  rw [h1]
  dsimp only
  rw [if_pos rfl, ri_hit xs y ⟨#[]⟩ [] hs (by rw [hyb]; simp [bl])]
  rfl
/-! What is read was written. -/
theorem un_back : ∀ (m : Nat) (l : ByteArray) (out : List ByteArray), (unL m l out).2.1 = 0 → ∃ xs, xs.length = m ∧ (unL m l out).2.2 = out ++ xs ∧ bl l = (xs.flatMap fun s => numG s.size ++ bl s) ++ bl (unL m l out).1
  | 0, l, out, _ => ⟨[], rfl, by simp [unL], by simp [unL]⟩
  | m + 1, l, out, h => by
    rw [unL] at h ⊢
    by_cases h0 : (nxQ l out).2.1 = 0
    · rw [if_pos h0] at h ⊢
      obtain ⟨xs, h1, h2, h3⟩ := un_back m _ _ h
      rcases nx_case l out with ⟨_, c1, c2, _, _⟩ | ⟨c, _⟩
      · obtain ⟨i1, i2, i3⟩ := in_ok c1
        have hn : nxQ l out = ((inN l).2.1.extract (inN l).1 (inN l).2.1.size, 0, out ++ [(inN l).2.1.extract 0 (inN l).1]) := by
          unfold nxQ; rw [if_neg (fun h9 => h9 c1), if_neg (by omega)]
        have hz : ((inN l).2.1.extract 0 (inN l).1).size = (inN l).1 := by rw [ByteArray.size_extract]; omega
        refine ⟨(inN l).2.1.extract 0 (inN l).1 :: xs, by rw [List.length_cons, h1], by rw [h2, hn, List.append_assoc]; rfl, ?_⟩
        rw [List.flatMap_cons, hz, List.append_assoc, List.append_assoc, i1, ← h3, hn]
        refine congrArg (numG (inN l).1 ++ ·) ?_
        rw [bl_ext, bl_ext, List.drop_zero, Nat.sub_zero, List.take_of_length_le (l := List.drop _ _) (by rw [List.length_drop, bl_len]; exact Nat.le_refl _), List.take_append_drop]
      · exact absurd h0 c
    · rw [if_neg h0] at h; exact absurd h h0
theorem unp_back {s : ByteArray} {xs : List ByteArray} (h : unpQ s = (xs, 0)) : bl s = packG xs := by
  unfold unpQ at h
  by_cases h0 : (inN s).2.2 = 0
  · rw [if_pos h0] at h
    unfold finU at h
    split at h
    · rename_i h1; injection h with _ h; exact absurd h h1
    · rename_i h1
      rw [Decidable.not_not] at h1
      split at h
      · injection h with _ h; exact absurd h (by decide)
      · rename_i h2
        rw [Decidable.not_not] at h2
        obtain ⟨ys, g1, g2, g3⟩ := un_back _ _ _ h1
        injection h with h _
        rw [h, List.nil_append] at g2
        subst g2
        obtain ⟨i1, _, _⟩ := in_ok h0
        rw [i1, g3, h2]
        unfold packG
        rw [g1]
        have : bl (⟨#[]⟩ : ByteArray) = [] := rfl
        rw [this, List.append_nil]
  · rw [if_neg h0] at h
    unfold finU at h
    rw [if_pos h0] at h
    injection h with _ h; exact absurd h h0
theorem ri_back : ∀ (m : Nat) (l : ByteArray) (out : List Int), (riL m l out).2.1 = 0 → ∃ xs, xs.length = m ∧ (riL m l out).2.2 = out ++ xs ∧ bl l = (xs.flatMap fun n => numG (sgn n)) ++ bl (riL m l out).1 ∧ ∀ n ∈ xs, -9223372036854775808 ≤ n ∧ n ≤ 9223372036854775807
  | 0, l, out, _ => ⟨[], rfl, by simp [riL], by simp [riL], fun n h => by cases h⟩
  | m + 1, l, out, h => by
    rw [riL] at h ⊢
    by_cases h0 : (inN l).2.2 = 0
    · rw [if_pos h0] at h ⊢
      obtain ⟨xs, h1, h2, h3, h4⟩ := ri_back m _ _ h
      obtain ⟨i1, i2, i3⟩ := in_ok h0
      refine ⟨uns (inN l).1 :: xs, by rw [List.length_cons, h1], by rw [h2, List.append_assoc]; rfl, ?_, fun n hn => ?_⟩
      · rw [List.flatMap_cons, sgn_uns, List.append_assoc, i1, ← h3]
      · rcases List.mem_cons.1 hn with rfl | hn
        · exact uns_in i3
        · exact h4 n hn
    · rw [if_neg h0] at h; exact absurd h h0
theorem riq_back {s : ByteArray} {xs : List Int} (h : riQ s = (xs, 0)) : bl s = intsG xs ∧ ∀ n ∈ xs, -9223372036854775808 ≤ n ∧ n ≤ 9223372036854775807 := by
  unfold riQ at h
  by_cases h0 : (inN s).2.2 = 0
  · rw [if_pos h0] at h
    unfold finU at h
    split at h
    · rename_i h1; injection h with _ h; exact absurd h h1
    · rename_i h1
      rw [Decidable.not_not] at h1
      split at h
      · injection h with _ h; exact absurd h (by decide)
      · rename_i h2
        rw [Decidable.not_not] at h2
        obtain ⟨ys, g1, g2, g3, g4⟩ := ri_back _ _ _ h1
        injection h with h _
        rw [h, List.nil_append] at g2
        subst g2
        obtain ⟨i1, _, _⟩ := in_ok h0
        refine ⟨?_, g4⟩
        rw [i1, g3, h2]
        unfold intsG
        rw [g1]
        have : bl (⟨#[]⟩ : ByteArray) = [] := rfl
        rw [this, List.append_nil]
  · rw [if_neg h0] at h
    unfold finU at h
    rw [if_pos h0] at h
    injection h with _ h; exact absurd h h0
end Go.PK

/- Of the proofs of YtaniaihoodgmpaaGreatDoor; see NOTES.md. -/
/-! Rounds of reading a list. -/
namespace Go.PK
open Go Go.RowKit
set_option linter.unusedVariables false
theorem nx_sz {l : ByteArray} {out : List ByteArray} {N : Nat} (hl : l.size ≤ N) (h : ∀ x ∈ out, x.size ≤ N) : ∀ x ∈ (nxQ l out).2.2, x.size ≤ N := by
  have hle := in_le l
  unfold nxQ
  split
  · exact h
  · split
    · exact h
    · intro x hx
      rcases List.mem_append.1 hx with hx | hx
      · exact h x hx
      · rw [List.mem_singleton.1 hx, ByteArray.size_extract]; omega
/-- How the reading of strings ends, from a state on. -/
def unS (m : Nat) (l : ByteArray) (e : Int) (out : List ByteArray) : ByteArray × Int × List ByteArray := if e = 0 then unL m l out else (l, e, out)
theorem unS_step {m i : Nat} (h : i < m) (l : ByteArray) (out : List ByteArray) : unS (m - i) l 0 out = unS (m - (i + 1)) (nxQ l out).1 (nxQ l out).2.1 (nxQ l out).2.2 := by
  unfold unS
  rw [if_pos rfl, show m - i = (m - (i + 1)) + 1 by omega, unL]
theorem unS_end {m i : Nat} {l : ByteArray} {e : Int} {out : List ByteArray} (h : m ≤ i ∨ e ≠ 0) : unS (m - i) l e out = (l, e, out) := by
  unfold unS
  by_cases h0 : e = 0
  · rw [if_pos h0, show m - i = 0 by omega, h0]; rfl
  · rw [if_neg h0]
theorem unp_eq (s : ByteArray) : unpQ s = finU (unS (inN s).1 (inN s).2.1 (inN s).2.2 []) := rfl
def riS (m : Nat) (l : ByteArray) (e : Int) (out : List Int) : ByteArray × Int × List Int := if e = 0 then riL m l out else (l, e, out)
theorem riS_step {m i : Nat} (h : i < m) (l : ByteArray) (out : List Int) : riS (m - i) l 0 out = riS (m - (i + 1)) (inN l).2.1 (inN l).2.2 (out ++ [uns (inN l).1]) := by
  unfold riS
  rw [if_pos rfl, show m - i = (m - (i + 1)) + 1 by omega, riL]
theorem riS_end {m i : Nat} {l : ByteArray} {e : Int} {out : List Int} (h : m ≤ i ∨ e ≠ 0) : riS (m - i) l e out = (l, e, out) := by
  unfold riS
  by_cases h0 : e = 0
  · rw [if_pos h0, show m - i = 0 by omega, h0]; rfl
  · rw [if_neg h0]
theorem riq_eq (s : ByteArray) : riQ s = finU (riS (inN s).1 (inN s).2.1 (inN s).2.2 []) := rfl
theorem fin_err {α : Type} {l : ByteArray} {e : Int} {out : List α} (h : e ≠ 0) : finU (l, e, out) = ([], e) := by unfold finU; rw [if_pos h]
theorem fin_more {α : Type} {l : ByteArray} {out : List α} (h : l ≠ ⟨#[]⟩) : finU (l, 0, out) = ([], 11) := by unfold finU; rw [if_neg (fun h9 => h9 rfl), if_pos h]
theorem fin_ok {α : Type} {out : List α} : finU ((⟨#[]⟩ : ByteArray), 0, out) = (out, 0) := by unfold finU; rw [if_neg (fun h9 => h9 rfl), if_neg (fun h9 => h9 rfl)]
end Go.PK

/- Of the proofs of YtaniaihoodgmpaaGreatDoor; see NOTES.md. -/
/-! A range over a function that is left by a return from within; two results in cells, behind a mark. -/
namespace Go.PK
open Go Go.RowKit
set_option linter.unusedVariables false
/-- The record behind a return from within. -/
def recD (fn : FuncId) (tmps : Array Value) (ps : Array Tmp) (assign body : Code) (D : Nat) : Loop := { state := .done, pending := some .ret, fn, tmps, params := ps, assign, body, defers := D }
section
variable {P : Program} {m n : Nat} {l : List (Nat × Value)} {own rest : List (Nat × Obj)} {ro : List Snap} {Q : Exit → Act → World → Prop} {R : Ending → World → Prop} {L : Nat} {fn : FuncId} {tmps : Array Value} {assign body : Code} {D : Nat}
/-- The round ends with a return. -/
theorem s_roundR {ps : Array Tmp} (h : ∀ w', Mem w' ((L, .loop (recD fn tmps ps assign body D)) :: rest) ro → R (.returned (.bool false)) w') :
    S (roundPost P L R .ret) n l ((L, .loop (recL .busy fn tmps ps assign body D)) :: rest) ro := by
  intro a w ha hw
  have hl := hw.own_at _ (.head _)
  exact ⟨_, _, run_endRound (some .ret) hl, h _ (Mem.turn (l1 := []) hw (turned_put hl))⟩
/-- A round of a loop of one variable. -/
theorem yield_one {w : World} {d1 : Nat} {v1 : Value} (hm : Mem w ((L, .loop (recL .ready fn tmps #[d1] assign body D)) :: rest) ro) (hfh : FH n l ⟨tmps, []⟩) (h1 : decide (d1 < n) = true)
    (h : WI (Fence.wide.inRound L) m P assign (Exit.then (fun a w => ∃ w2, (Instr.beginRound L).run P w = .ok () w2 ∧ body.wpIn (Fence.wide.inRound L) m P (roundPost P L R) a w2) (fun _ _ _ => False)) n ((d1, v1) :: l) ((L, .loop (recL .ready fn tmps #[d1] assign body D)) :: rest) ro) :
    YieldAt Fence.wide m P L #[v1] w R := by
  have hl := hm.own_at _ (.head _)
  have hy := run_yield (P := P) (args := #[v1]) hl rfl
  refine ⟨fn, _, assign, body, hy, roundIn_of_wpIn trivial (h _ w ?_ hm)⟩
  have := hfh.put v1 (of_decide_eq_true h1)
  have e : (#[d1] : Array Tmp).zip #[v1] = #[(d1, v1)] := by
    apply Array.ext'
    simp
  show FH n ((d1, v1) :: l) { tmps := ((#[d1] : Array Tmp).zip #[v1]).foldl (fun t (q : Tmp × Value) => t.setIfInBounds q.1 q.2) tmps, defers := [] }
  rw [e]
  exact this
/-- The statement, with two ways out. -/
theorem w_rangeX {g : Operand} {ps : Array Tmp} {gf : Nat} {lb : Array Value} {τ σ : Type} (I : τ → Prop) (O : τ → List (Nat × Obj)) (J : σ → Prop) (O2 : σ → List (Nat × Obj)) (hg : ev l g = some (.func (.func gf) #[] lb)) (eg : ∀ args w, (callFunc gf args).run P w = .ok (.enter gf args) w)
    (hc : ∀ (L D : Nat) (fn : FuncId) (tmps : Array Value) (w1 : World), FH n l ⟨tmps, []⟩ → Mem w1 ((L, .loop (recL .ready fn tmps ps assign body D)) :: (D, .deferred (some [])) :: own) ro →
      Calls P gf (#[.func (.yield L) #[] #[]] ++ lb) w1 fun e w2 => (∃ v, e = .returned v) ∧ ((∃ x, I x ∧ Mem w2 ((L, .loop (recL .ready fn tmps ps assign body D)) :: (D, .deferred (some [])) :: O x) ro) ∨ (∃ x, J x ∧ Mem w2 ((L, .loop (recD fn tmps ps assign body D)) :: (D, .deferred (some [])) :: O2 x) ro)))
    (h : ∀ D x, I x → SD D (Q .normal) n l ((D, .deferred (some [])) :: O x) ro) (h2 : ∀ D x, J x → SD D (Q .ret) n l ((D, .deferred (some [])) :: O2 x) ro) : W P (.rangeFunc g ps assign body) Q n l own ro := by
  intro a w ha hw
  refine (wpIn_wide (n := 1)).1 (wpIn_rangeFunc ?_)
  intro fn _
  have hgv := ha.eval hg
  have hdf : a.defers = [] := ha.df
  have h1 : Mem (w.alloc (.deferred (some []))) ((w.heap.size, .deferred (some [])) :: own) ro := hw.new _
  have h2' : Mem ((w.alloc (.deferred (some []))).alloc (.loop (recL .ready fn a.tmps ps assign body w.heap.size))) ((w.heap.size + 1, .loop (recL .ready fn a.tmps ps assign body w.heap.size)) :: (w.heap.size, .deferred (some [])) :: own) ro := by
    have h3 := h1.new (.loop (recL .ready fn a.tmps ps assign body w.heap.size))
    rwa [World.size_alloc] at h3
  have hfh : FH n l ⟨a.tmps, []⟩ := ⟨ha.sz, rfl, ha.at_⟩
  have hC := hc _ _ fn a.tmps _ hfh h2'
  have hC2 : CallsIn Fence.wide 0 P gf (#[.func (.yield (w.heap.size + 1)) #[] #[]] ++ lb) ((w.alloc (.deferred (some []))).alloc (.loop (recL .ready fn a.tmps ps assign body w.heap.size))) (rangePost Fence.wide 1 P (w.heap.size + 1) Q { a with defers := [{ target := .collected w.heap.size, args := #[] }] ++ a.defers }) := by
    refine callsIn_wide.2 (Calls.mono hC ?_)
    rintro e w2 ⟨⟨v, rfl⟩, ⟨x, hx, hm⟩ | ⟨x, hx, hm⟩⟩
    · have hl := hm.own_at _ (.head _)
      refine ⟨none, _, run_endLoop hl (by simp [recL]), ?_⟩
      have h4 := Mem.turn (l1 := []) hm (turned_put (o' := .loop { recL .ready fn a.tmps ps assign body w.heap.size with state := .exhausted }) hl)
      have h5 := h _ x hx a _ ha (h4.less (List.sublist_cons_self _ _) (fun _ h => h))
      rw [hdf]
      exact h5
    · have hl := hm.own_at _ (.head _)
      refine ⟨some .ret, _, run_endLoop hl (by simp [recD]), ?_⟩
      have h4 := Mem.turn (l1 := []) hm (turned_put (o' := .loop { recD fn a.tmps ps assign body w.heap.size with state := .exhausted }) hl)
      have h5 := h2 _ x hx a _ ha (h4.less (List.sublist_cons_self _ _) (fun _ h => h))
      rw [hdf]
      exact (wpIn_wide (n := 1)).2 (wp_ret h5)
  clear hC h2' h1
  have hres : (resolve a.eval (rangeCall g (w.heap.size + 1)) 0).run P ((w.alloc (.deferred (some []))).alloc (.loop (recL .ready fn a.tmps ps assign body w.heap.size))) = .ok { target := .fn (.func gf) lb, args := #[.func (.yield (w.heap.size + 1)) #[] #[]] } ((w.alloc (.deferred (some []))).alloc (.loop (recL .ready fn a.tmps ps assign body w.heap.size))) := by
    simp only [resolve, hgv]
    simp [go_sem]
  have hinv : ∀ W : World, (invoke (.fn (.func gf) lb) #[.func (.yield (w.heap.size + 1)) #[] #[]]).run P W = .ok (.enter gf (#[.func (.yield (w.heap.size + 1)) #[] #[]] ++ lb)) W := fun W => by simp [invoke, go_sem, eg]
  exact ⟨w.heap.size + 1, [{ target := .collected w.heap.size, args := #[] }], _, _, _, gf, _, _, run_enterLoop_outer _ _ _ _ _, hres, fun _ _ => trivial, hinv _, fun h => by simp [Fence.wide] at h, hC2⟩
/-- Two results in cells. -/
theorem results_cell_cell {fd : Func} {p u : Tmp} {ty ty2 : TypeId} (h : fd.results = #[.cell p ty, .cell u ty2]) (tmps : Array Value) (P : Program) (w : World) :
    (results fd tmps).run P w =
      ((asAddr (tmps.getD p undef)).run P w).andThen fun a w₁ => ((loadVar ty a).run P w₁).andThen fun v w₂ => ((asAddr (tmps.getD u undef)).run P w₂).andThen fun a2 w₃ => ((loadVar ty2 a2).run P w₃).andThen fun v2 w₄ => .ok (.tuple #[v, v2]) w₄ := by
  simp only [results, h]
  simp [Sem.run_bind, Result.andThen]
theorem run_cell1 {w : World} {b : Nat} {ty : TypeId} {td : TypeDesc} {v : Value} (ht : P.underlying ty = some td) (hd : aggT td = false) (hc : w.cell? ⟨b, 0, none⟩ = some v) : (loadVar ty ⟨b, 0, none⟩).run P w = .ok v w := by
  simp [loadVar, run_isAgg ht, hd, hc]
theorem ret2M0 {fd : Func} {t u : Tmp} {ty ty2 : TypeId} {td td2 : TypeDesc} {b b2 : Nat} {v v2 : Value} (hr : fd.results = #[.cell t ty, .cell u ty2]) (hv : l.lookup t = some (.pointer (some ⟨b, 0, none⟩))) (hu : l.lookup u = some (.pointer (some ⟨b2, 0, none⟩)))
    (ht : P.underlying ty = some td) (hd : aggT td = false) (ht2 : P.underlying ty2 = some td2) (hd2 : aggT td2 = false) (hc : At own ro b 0 v) (hc2 : At own ro b2 0 v2) (h : ∀ w', Mem w' own ro → R (.returned (.tuple #[v, v2])) w') : S (bodyPostM Fence.wide m P fd R .ret) n l own ro := by
  intro a w ha hw
  have h1 := ha.at_ t _ hv
  have h2 := ha.at_ u _ hu
  show LeavesInM Fence.wide m P fd a.tmps R a.defers .returning w
  rw [ha.df]
  refine ⟨_, ?_, h w hw⟩
  rw [results_cell_cell hr, show a.tmps.getD t undef = .pointer (some ⟨b, 0, none⟩) by simp [Array.getD_eq_getD_getElem?, h1], show a.tmps.getD u undef = .pointer (some ⟨b2, 0, none⟩) by simp [Array.getD_eq_getD_getElem?, h2]]
  simp [asAddr, run_cell1 ht hd (hc w hw), run_cell1 ht2 hd2 (hc2 w hw)]
theorem ret2M {fd : Func} {t u : Tmp} {ty ty2 : TypeId} {td td2 : TypeDesc} {b b2 : Nat} {v v2 : Value} (hr : fd.results = #[.cell t ty, .cell u ty2]) (hv : l.lookup t = some (.pointer (some ⟨b, 0, none⟩))) (hu : l.lookup u = some (.pointer (some ⟨b2, 0, none⟩)))
    (ht : P.underlying ty = some td) (hd : aggT td = false) (ht2 : P.underlying ty2 = some td2) (hd2 : aggT td2 = false) (hc : At rest ro b 0 v) (hc2 : At rest ro b2 0 v2) (h : ∀ w', Mem w' rest ro → R (.returned (.tuple #[v, v2])) w') : SD D (bodyPostM Fence.wide m P fd R .ret) n l ((D, .deferred (some [])) :: rest) ro := by
  intro a w ha hw
  have hl := hw.own_at _ (.head _)
  have hm2 := (Mem.turn (l1 := []) hw (turned_put (o' := .deferred none) hl)).less (List.sublist_cons_self _ _) (fun _ h => h)
  refine ⟨by simp, .inl ⟨D, _, rfl, run_takeDeferred hl, (.tuple #[v, v2]), ?_, h _ hm2⟩⟩
  have h1 := ha.at_ t _ hv
  have h2 := ha.at_ u _ hu
  show (results fd a.tmps).run P _ = _
  rw [results_cell_cell hr, show a.tmps.getD t undef = .pointer (some ⟨b, 0, none⟩) by simp [Array.getD_eq_getD_getElem?, h1], show a.tmps.getD u undef = .pointer (some ⟨b2, 0, none⟩) by simp [Array.getD_eq_getD_getElem?, h2]]
  simp [asAddr, run_cell1 ht hd (hc _ hm2), run_cell1 ht2 hd2 (hc2 _ hm2)]
/-- A store, with a mark among the deferred calls. -/
theorem sdl_store {ops : Array Oper} {t ty : TypeId} {x y : Operand} {pos : String} {af : Array Edge} {r : List Oper} {v : Value} {b off k : Nat} {e : TypeId} {cs : List Value} (l1 : List (Nat × Obj)) {l2 : List (Nat × Obj)} (hx : ev l x = some (.pointer (some ⟨b, off, none⟩))) (hy : ev l y = some v)
    (hown : own = l1 ++ (b, .cells cs.toArray e (0, 0)) :: l2) (hs : (P.info? t).map (·.size) = some k) (hm : (decide (v.cells.size = k) && v.cells.toList.all (fun u => u.oneCell')) = true) (hb : off + k ≤ cs.length)
    (h : SDL D P ops Q r n l (l1 ++ (b, .cells (cs.take off ++ v.cells.toList ++ cs.drop (off + k)).toArray e (0, 0)) :: l2) ro) : SDL D P ops Q (⟨none, .store t x y, ty, pos, af, none⟩ :: r) n l own ro := by
  subst hown
  intro a w ha hw
  simp only [Bool.and_eq_true, decide_eq_true_eq, List.all_eq_true] at hm
  obtain ⟨hm, h1⟩ := hm
  refine wpList_step fun K hK => ?_
  rw [if_pos (by simp [Region.wanted])]
  have he : (Act.eval { a with defers := [{ target := .collected D, args := #[] }] }) = a.eval := by funext x; cases x <;> rfl
  have hg : w.heap[b]? = some (.cells cs.toArray e (0, 0)) := hw.own_at (b, _) (by simp)
  have hlen : v.cells.toList.length = k := by simpa using hm
  have hst := run_storeCells_at (P := P) b off e v.cells.toList 0 cs.toArray w hg (by simp only [List.size_toArray]; omega) h1
  have hst2 : (storeVar t ⟨b, off, none⟩ v).run P w = .ok () (w.setRow b (cs.take off ++ v.cells.toList ++ cs.drop (off + k)).toArray) := by
    simp only [storeVar, Sem.run_bind, run_sizeOf hs, Result.andThen_ok, hm, ne_eq, not_true, if_false, hst, Nat.add_zero, hlen]
  unfold Oper.wp
  rw [he]
  have hrun : (execOp a.eval ⟨none, .store t x y, ty, pos, af, none⟩).run P w = .ok .skip (w.setRow b (cs.take off ++ v.cells.toList ++ cs.drop (off + k)).toArray) := by
    simp only [execOp, ha.eval hx, ha.eval hy, Instr.storeAt, Instr.sureAddr, Sem.run_bind, Sem.run_pure, Result.andThen_ok, hst2]
  rw [hrun]
  exact hK _ _ (h a _ ha (hw.turn (turned_setRow hg)))
end
section
variable {P : Program} {m n : Nat} {l : List (Nat × Value)} {own : List (Nat × Obj)} {ro : List Snap} {Q : Exit → Act → World → Prop}
/-- The call of yield, whose answer depends on what it leaves. -/
theorem s_yieldV {lops : List Oper} {j d t L : Nat} {xs : Array Operand} {tys : Array TypeId} {ty : TypeId} {pos : String} {af : Array Edge} {vs : List Value} {τ : Type} (V : τ → Value) (I : τ → Prop) (O : τ → List (Nat × Obj))
    (ho : lops[j]? = some ⟨some d, .call ⟨.value (.tmp t), xs, tys⟩, ty, pos, af, none⟩) (hd : decide (d < n) = true) (hf : l.lookup t = some (.func (.yield L) #[] #[])) (hx : evs l xs.toList = some vs) (hm : decide (1 ≤ m) = true)
    (hY : ∀ w, Mem w own ro → YieldAt Fence.wide (m - 1) P L vs.toArray w fun e w' => ∃ x, e = .returned (V x) ∧ I x ∧ Mem w' (O x) ro)
    (h : ∀ x, I x → S (fun a w => wpListIn Fence.wide m P lops.toArray Q (lops.drop (j + 1)) a w) n ((d, V x) :: l) (O x) ro) : S (fun a w => wpListIn Fence.wide m P lops.toArray Q (lops.drop j) a w) n l own ro := by
  intro a w ha hw
  have hlt : j < lops.length := (List.getElem?_eq_some_iff.1 ho).1
  have he : lops[j] = ⟨some d, .call ⟨.value (.tmp t), xs, tys⟩, ty, pos, af, none⟩ := by
    rw [List.getElem?_eq_getElem hlt] at ho; exact Option.some.inj ho
  obtain ⟨fn, tmps, assign, body, hy, hR⟩ := hY w hw
  show wpListIn Fence.wide m P lops.toArray Q (lops.drop j) a w
  rw [List.drop_eq_getElem_cons hlt, he]
  refine wpListIn_plain rfl fun K hK => ?_
  refine ⟨fun _ _ => trivial, ?_⟩
  rw [Oper.semAt_eq _ _ _ (fun c e => by cases e)]
  have hev := ha.evals hx
  have hrun : (execOp a.eval ⟨some d, .call ⟨.value (.tmp t), xs, tys⟩, ty, pos, af, none⟩).run P w = .ok (.round L fn tmps assign body) w := by
    have h1 : (xs.map a.eval) = vs.toArray := by
      apply Array.ext'
      rw [Array.toList_map, hev]
    have hft : a.tmps[t]?.getD undef = .func (.yield L) #[] #[] := by rw [ha.at_ t _ hf]; rfl
    simp [execOp, resolve, hft, h1, go_sem, invoke, hy]
  rw [hrun]
  refine ⟨fun _ => of_decide_eq_true hm, ?_⟩
  refine hR.mono ?_
  rintro e w' ⟨x, rfl, hI, hm'⟩
  exact hK _ _ (h x hI _ w' (ha.put (V x) (of_decide_eq_true hd)) hm')
/-- s[i:j:k]. -/
theorem v_scut_3 {t ty : TypeId} {x y z z' : Operand} {e : TypeId} {A : Option Addr} {len cap i j k m : Nat} {k1 k2 k3 : IntKind} (ht : P.underlying t = some (.slice e)) (hs : (P.info? e).map (·.size) = some m) (hx : ev l x = some (.slice A len cap)) (hy : ev l y = some (.int k1 (i : Nat))) (hz : ev l z = some (.int k2 (j : Nat))) (hz' : ev l z' = some (.int k3 (k : Nat))) (hij : i ≤ j) (hjk : j ≤ k) (hk : k ≤ cap) :
    OpV P n l own ro (.slice t x (some y) (some z) (some z')) ty (.slice (if k = i then A else A.map (fun a => a.add (i * m))) (j - i) (k - i)) := by
  intro a w o ha hw ho _
  have h2 : (Instr.sliceAt t (.slice A len cap) (some (.int k1 (i : Nat))) (some (.int k2 (j : Nat))) (some (.int k3 (k : Nat)))).run P w = .ok (.slice (if k = i then A else A.map (fun a => a.add (i * m))) (j - i) (k - i)) w := by
    simp [Instr.sliceAt, Instr.slice, Instr.sliceBounds, Instr.sliceBound, asIntOf, run_underlying ht, hij, hjk, hk, run_sizeOf hs]
  simp [execOp, ho, ha.eval hx, ha.eval hy, ha.eval hz, ha.eval hz', h2]
theorem v_chunk {t ty : TypeId} {x y z z' : Operand} {e : TypeId} {A : Option Addr} {len cap i n0 m : Nat} {k1 k2 k3 : IntKind} (ht : P.underlying t = some (.slice e)) (hs : (P.info? e).map (·.size) = some m) (hx : ev l x = some (.slice A len cap)) (hy : ev l y = some (.int k1 (i : Nat))) (hz : ev l z = some (.int k2 ((i + n0 : Nat) : Int))) (hz' : ev l z' = some (.int k3 ((i + n0 : Nat) : Int))) (h0 : 0 < n0) (hk : i + n0 ≤ cap) :
    OpV P n l own ro (.slice t x (some y) (some z) (some z')) ty (.slice (A.map (fun a => a.add (i * m))) n0 n0) := by
  have h := v_scut_3 (n := n) (own := own) (ro := ro) (ty := ty) ht hs hx hy hz hz' (by omega) (Nat.le_refl _) hk
  rw [if_neg (by omega), Nat.add_sub_cancel_left] at h
  exact h
end
end Go.PK

/- Of the proofs of YtaniaihoodgmpaaGreatDoor; see NOTES.md. -/
/-! Regions that draw their order, within a round of a range over a function. -/
namespace Go.PK
open Go Go.RowKit
set_option linter.unusedVariables false
section
variable {P : Program} {oF : List (Nat × Obj)} {rF : List Snap}
theorem any_region_can {Q : Exit → Act → World → Prop} {a : Act} {w : World} {l : List Oper} (n : Nat) (plan : List (Bool × Nat)) (hB : canB .any l.toArray n plan = true)
    (h : wpCan P l.toArray (fun a' w' => ∀ w'', Later w' w'' → wpList P l.toArray Q (l.drop n) a' w'') plan a w) : wpAny P .any l.toArray Q l.toArray.size (Array.replicate l.toArray.size false) a { w with drawn := w.drawn + 1 } := by
  simp only [canB, Bool.and_eq_true, decide_eq_true_eq] at hB
  obtain ⟨⟨⟨hsel, hn⟩, hlen⟩, hpl⟩ := hB
  have hnle : n ≤ l.toArray.size := by
    rcases Bool.or_eq_true _ _ ▸ hn with hn | hn
    · simp only [decide_eq_true_eq] at hn; omega
    · simp only [Bool.and_eq_true, decide_eq_true_eq] at hn; omega
  have hnt : ∀ i, i < n → ∀ listed, HeadInv .any l.toArray n listed → listed.getD i true = false → ∀ j ∈ Region.ready .any l.toArray listed, j < n := by
    intro i hin listed inv hun j hj
    rcases Bool.or_eq_true _ _ ▸ hn with hn | hn
    · simp only [decide_eq_true_eq] at hn
      have := ready_lt j hj
      omega
    · simp only [Bool.and_eq_true, decide_eq_true_eq] at hn
      obtain ⟨⟨hn, hs⟩, hc⟩ := hn
      rcases Nat.lt_or_ge j n with h | h
      · exact h
      · exact absurd hj (tail_waits hs hc hn inv _ i rfl hin hun j h)
  have inv0 : HeadInv .any l.toArray n (Array.replicate l.toArray.size false) :=
    ⟨by simp, fun j oj _ hl => (by rw [getD_replicate_false] at hl; cases hl), fun t _ ht => getD_in (by simpa using ht) (getD_replicate_false _ _)⟩
  have H := wpAnyC_plan (P := P) (md := .any) (Q := fun a' w' => ∀ w'', Later w' w'' → wpList P l.toArray Q (l.drop n) a' w'') (fun a w w' hw hq w'' hw'' => hq w'' (hw.trans hw'')) hsel hnt plan _ a w inv0 hpl h
  have hdl : (l.drop n).length = l.toArray.size - n := by simp
  have := wpAny_of_can (Q' := Q) (g := l.toArray.size - n) (fun listed a' w' hL => by
    have := wpAny_of_seq (md := .any) (Q' := Q) (l.drop n) n listed a' w' (fun j => by simp [List.getElem?_drop]) (by rw [hdl]; exact hL.1) (hL.2 w' (Later.refl _))
    rwa [hdl] at this) _ _ _ _ (wpAnyC_later (fun _ _ _ _ hw hq => ⟨hq.1, fun w2 h2 => hq.2 w2 (hw.trans h2)⟩) _ _ _ _ _ (Later.drew w) H)
  rw [hlen, show n + (l.toArray.size - n) = l.toArray.size by omega] at this
  exact this
theorem any_region_inv {Q : Exit → Act → World → Prop} {a : Act} {w : World} {l : List Oper} (n : Nat) (t : Pl) 
    (hB : (Region.noSelect l.toArray && (decide (n = l.toArray.size) || (decide (n < l.toArray.size) && Region.sinkB .any l.toArray n && Region.chainB .any l.toArray n)) && treeB .any l.toArray n false n t (Array.replicate l.toArray.size false)) = true)
    (hw : Mem w oF rF) (h : wpJ P l.toArray oF rF (fun a' w' => ∀ w'', Later w' w'' → wpList P l.toArray Q (l.drop n) a' w'') t a w) : wpAny P .any l.toArray Q l.toArray.size (Array.replicate l.toArray.size false) a { w with drawn := w.drawn + 1 } := by
  simp only [Bool.and_eq_true] at hB
  obtain ⟨⟨hsel, hn⟩, hpl⟩ := hB
  have hnle : n ≤ l.toArray.size := by
    rcases Bool.or_eq_true _ _ ▸ hn with hn | hn
    · simp only [decide_eq_true_eq] at hn; omega
    · simp only [Bool.and_eq_true, decide_eq_true_eq] at hn; omega
  have hnt : ∀ i, i < n → ∀ listed, HeadInv .any l.toArray n listed → listed.getD i true = false → ∀ j ∈ Region.ready .any l.toArray listed, j < n := by
    intro i hin listed inv hun j hj
    rcases Bool.or_eq_true _ _ ▸ hn with hn | hn
    · simp only [decide_eq_true_eq] at hn
      have := ready_lt j hj
      omega
    · simp only [Bool.and_eq_true, decide_eq_true_eq] at hn
      obtain ⟨⟨hn, hs⟩, hc⟩ := hn
      rcases Nat.lt_or_ge j n with h | h
      · exact h
      · exact absurd hj (tail_waits hs hc hn inv _ i rfl hin hun j h)
  have inv0 : HeadInv .any l.toArray n (Array.replicate l.toArray.size false) :=
    ⟨by simp, fun j oj _ hl => (by rw [getD_replicate_false] at hl; cases hl), fun t _ ht => getD_in (by simpa using ht) (getD_replicate_false _ _)⟩
  have H := (wpAnyJ_tree (P := P) (md := .any) (oF := oF) (rF := rF) (Q := fun a' w' => ∀ w'', Later w' w'' → wpList P l.toArray Q (l.drop n) a' w'') (fun a w w' hw hq w'' hw'' => hq w'' (hw.trans hw'')) hsel hnt t n _ a w inv0).1 hpl h
  have hdl : (l.drop n).length = l.toArray.size - n := by simp
  have := wpAny_of_canJ (Q' := Q) (g := l.toArray.size - n) (oF := oF) (rF := rF) (fun listed a' w' _ hL => by
    have := wpAny_of_seq (md := .any) (Q' := Q) (l.drop n) n listed a' w' (fun j => by simp [List.getElem?_drop]) (by rw [hdl]; exact hL.1) (hL.2 w' (Later.refl _))
    rwa [hdl] at this) _ _ _ _ (hw.later (Later.drew w)) (wpAnyJ_later (fun _ _ _ _ hw hq => ⟨hq.1, fun w2 h2 => hq.2 w2 (hw.trans h2)⟩) _ _ _ _ _ (Later.drew w) H)
  rw [show n + (l.toArray.size - n) = l.toArray.size by omega] at this
  exact this
/-- Every order goes through within a fence that lets everything in. -/
theorem any_fence {F : Fence} {m : Nat} (hF : Lets F m P) {lops : List Oper} {Q : Exit → Act → World → Prop} (hno : ¬LetsOut Q) (hd : lops.all (fun o => match o.op with | .defer _ => false | _ => true) = true) :
    ∀ (f : Nat) (listed : Array Bool) (a : Act) (w : World), wpAny P .any lops.toArray Q f listed a w → wpAnyIn F m P .any lops.toArray Q f listed a w
  | 0, listed, a, w, h => h
  | f + 1, listed, a, w, h => by
    obtain ⟨h1, h2⟩ := h
    refine ⟨h1, fun i hi => ?_⟩
    have h3 := h2 i hi
    unfold wpOp at h3
    unfold wpOpIn
    cases ho : lops.toArray[i]? with
    | none => rw [ho] at h3; exact any_fence hF hno hd f _ a w h3
    | some o =>
      rw [ho] at h3
      dsimp only at h3 ⊢
      split at h3
      · rename_i hw
        rw [if_pos hw]
        rcases h3 with h3 | h3
        · have hmem : o ∈ lops := by
            rw [List.getElem?_toArray] at ho
            exact List.mem_of_getElem? ho
          exact hF.op (no_defer hd hmem) (Oper.wp_mono (fun a' w' hk => any_fence hF hno hd f _ a' w' hk) h3)
        · exact absurd h3.2 hno
      · rename_i hw
        rw [if_neg hw]
        exact ⟨fun g _ => hF.fn g, any_fence hF hno hd f _ _ w h3⟩
end
section
variable {P : Program} {m n : Nat} {l : List (Nat × Value)} {own : List (Nat × Obj)} {ro : List Snap} {F : Fence} {Q : Exit → Act → World → Prop}
theorem ri_draw (hF : Lets F m P) (hno : ¬LetsOut Q) {id : Nat} {lops : List Oper} (k : Nat) (plan : List (Bool × Nat)) (hm : P.follows .mixedOrders = true) (hB : canB .any lops.toArray k plan = true) (hd : lops.all (fun o => match o.op with | .defer _ => false | _ => true) = true)
    (h : WX P lops.toArray Q (fun a w => Q .normal a w) ((plan.map fun p => (some p.1, p.2)) ++ tailFrom k lops.length) n l own ro) : WI F m P (.region id lops.toArray true) Q n l own ro := fun a w ha hw =>
  wpIn_region_any hm (any_fence hF hno hd _ _ _ _ (any_region_can k plan hB (wpCan_of_X k plan a w (h a w ha hw))))
theorem ri_inv (hF : Lets F m P) (hno : ¬LetsOut Q) {id : Nat} {lops : List Oper} (oF : List (Nat × Obj)) (k : Nat) (t : Pl) (hsub : oF.Sublist own) (hm : P.follows .mixedOrders = true)
    (hB : (Region.noSelect lops.toArray && (decide (k = lops.toArray.size) || (decide (k < lops.toArray.size) && Region.sinkB .any lops.toArray k && Region.chainB .any lops.toArray k)) && treeB .any lops.toArray k false k t (Array.replicate lops.toArray.size false)) = true) (hd : lops.all (fun o => match o.op with | .defer _ => false | _ => true) = true)
    (h : S (wpJ P lops.toArray oF ro (fun a' w' => ∀ w'', Later w' w'' → wpList P lops.toArray Q (lops.drop k) a' w'') t) n l own ro) : WI F m P (.region id lops.toArray true) Q n l own ro := fun a w ha hw =>
  wpIn_region_any hm (any_fence hF hno hd _ _ _ _ (any_region_inv k t hB (hw.less hsub (fun _ h => h)) (h a w ha hw)))
theorem wi_ret (h : S (Q .ret) n l own ro) : WI F m P .ret Q n l own ro := fun a w ha hw => wpIn_ret (h a w ha hw)
theorem no_round {L : Nat} {R : Ending → World → Prop} : ¬LetsOut (roundPost P L R) := fun ⟨_, _, h⟩ => h
theorem no_then {K : Act → World → Prop} (h : ¬LetsOut Q) : ¬LetsOut (Exit.then K Q) := fun ⟨a, w, h1⟩ => h ⟨a, w, h1⟩
theorem no_block {id : Nat} (h : ¬LetsOut Q) : ¬LetsOut (Exit.inBlock id Q) := fun ⟨a, w, h1⟩ => h ⟨a, w, h1⟩
/-- w_rangeX, the records under names. -/
theorem w_rangeR {assign body : Code} {g : Operand} {ps : Array Tmp} {gf : Nat} {lb : Array Value} {τ σ : Type} (I : τ → Prop) (O : τ → List (Nat × Obj)) (J : σ → Prop) (O2 : σ → List (Nat × Obj)) (hg : ev l g = some (.func (.func gf) #[] lb)) (eg : ∀ args w, (callFunc gf args).run P w = .ok (.enter gf args) w)
    (hc : ∀ (L D : Nat) (fn : FuncId) (tmps : Array Value) (w1 : World) (rr rd : Loop), rr = recL .ready fn tmps ps assign body D → rd = recD fn tmps ps assign body D → FH n l ⟨tmps, []⟩ → Mem w1 ((L, .loop rr) :: (D, .deferred (some [])) :: own) ro →
      Calls P gf (#[.func (.yield L) #[] #[]] ++ lb) w1 fun e w2 => (∃ v, e = .returned v) ∧ ((∃ x, I x ∧ Mem w2 ((L, .loop rr) :: (D, .deferred (some [])) :: O x) ro) ∨ (∃ x, J x ∧ Mem w2 ((L, .loop rd) :: (D, .deferred (some [])) :: O2 x) ro)))
    (h : ∀ D x, I x → SD D (Q .normal) n l ((D, .deferred (some [])) :: O x) ro) (h2 : ∀ D x, J x → SD D (Q .ret) n l ((D, .deferred (some [])) :: O2 x) ro) : W P (.rangeFunc g ps assign body) Q n l own ro :=
  w_rangeX I O J O2 hg eg (fun L D fn tmps w1 hf hm => hc L D fn tmps w1 _ _ rfl rfl hf hm) h h2
end
end Go.PK

/- Of the proofs of YtaniaihoodgmpaaGreatDoor; see NOTES.md. -/
/-! A serial opened from bytes. -/
namespace Go.PK
open Go Go.RowKit
set_option linter.unusedVariables false
/-- An entry that may stand there. -/
def entB (nx a b c d : Int) : Prop := nx ≤ a ∧ a ≤ b ∧ b - a < 100 ∧ b < 100000 ∧ (c = 0 ∨ c = 1) ∧ okDay d
instance (nx a b c d : Int) : Decidable (entB nx a b c d) := by unfold entB; exact inferInstance
def opE : Int → List Int → Option (List Ent)
  | _, [] => some []
  | nx, a :: b :: c :: d :: r => if entB nx a b c d then (opE (b + 1) r).map (⟨a, b, decide (c = 1), d⟩ :: ·) else none
  | _, _ => none
def nthS (l : List ByteArray) (k : Nat) : ByteArray := l.getD k ⟨#[]⟩
def headQ (rd : ByteArray → Pat × Int) (t : ByteArray) : Pat × Int := if t ≠ ⟨#[]⟩ then rd t else (zeroPat, 0)
noncomputable def openG (rd : ByteArray → Pat × Int) (s : ByteArray) : Option (Pat × List Ent) :=
  if (unpQ s).2 ≠ 0 ∨ (unpQ s).1.length ≠ 2 then none else
  if (headQ rd (nthS (unpQ s).1 0)).2 ≠ 0 ∨ (riQ (nthS (unpQ s).1 1)).2 ≠ 0 ∨ (riQ (nthS (unpQ s).1 1)).1.length % 4 ≠ 0 ∨ (0 < (riQ (nthS (unpQ s).1 1)).1.length ∧ nthS (unpQ s).1 0 = ⟨#[]⟩) then none else
  (opE 0 (riQ (nthS (unpQ s).1 1)).1).map fun es => ((headQ rd (nthS (unpQ s).1 0)).1, es)
theorem ri_len {s : ByteArray} {xs : List Int} (h : riQ s = (xs, 0)) : xs.length ≤ s.size := by
  have h1 := congrArg List.length (riq_back h).1
  rw [bl_len] at h1
  unfold intsG at h1
  rw [List.length_append] at h1
  have h2 : ∀ l : List Int, l.length ≤ (l.flatMap fun n => numG (sgn n)).length := fun l => by
    induction l with
    | nil => exact Nat.le_refl _
    | cons x l ih => rw [List.flatMap_cons, List.length_append, List.length_cons]; have := numG_pos (sgn x); omega
  have := h2 xs
  omega
end Go.PK

/- Of the proofs of YtaniaihoodgmpaaGreatDoor; see NOTES.md. -/
/-! As rg_inv, where an operation of the region may add snapshots: rF are those that the floats look at. -/
namespace Go.PK
open Go Go.RowKit
set_option linter.unusedVariables false
section
variable {P : Program} {n : Nat} {l : List (Nat × Value)} {own oF : List (Nat × Obj)} {ro rF : List Snap} {lops : List Oper} {Q : Exit → Act → World → Prop} {K : Act → World → Prop} {i d : Nat} {t e : Pl} {op : Op} {ty : TypeId} {pos : String} {af : Array Edge}
theorem k_run {o : Oper} (ho : lops[i]? = some o) (hgo : Go_ lops n l o) (hd0 : o.dst = some d) (hd : decide (d < n) = true) {v : Value} (hv : OpV P n l oF rF o.op o.type v)
    (h : S (wpJ P lops.toArray oF rF K t) n ((d, v) :: l) own ro) : S (wpJ P lops.toArray oF rF K (.flt i t)) n l own ro := fun a w ha hw => by
  have hd' : d < n := of_decide_eq_true hd
  unfold wpJ
  simp only [List.getElem?_toArray, ho]
  rw [if_pos (hgo a ha)]
  refine ⟨v, fun w' hw' => ?_, by rw [hd0]; exact h _ w (ha.put v hd') hw⟩
  unfold fltAt
  rw [hv a w' _ ha hw' rfl rfl]
  exact ⟨rfl, rfl⟩
theorem k_val (ho : lops[i]? = some ⟨some d, op, ty, pos, af, none⟩) (hd : decide (d < n) = true) {v : Value} (hv : OpV P n l oF rF op ty v)
    (h : S (wpJ P lops.toArray oF rF K t) n ((d, v) :: l) own ro) : S (wpJ P lops.toArray oF rF K (.flt i t)) n l own ro := k_run ho (go_none rfl) rfl hd hv h
/-- An operation that turns a block, or makes one. -/
theorem k_gr (h : WX P lops.toArray (fun _ _ _ => False) (fun a w => Mem w oF rF ∧ wpJ P lops.toArray oF rF K t a w) [(none, i)] n l own ro) (he : S (wpJ P lops.toArray oF rF K e) n l own ro) : S (wpJ P lops.toArray oF rF K (.gr i t e)) n l own ro := fun a w ha hw => by
  have h := h a w ha hw
  unfold wpJ
  refine ⟨?_, he a w ha hw⟩
  simp only [wpX] at h
  split <;> rename_i ho <;> simp only [ho] at h
  split <;> rename_i hw'
  · intro w2 h2
    have h := h w2 h2
    rw [if_pos hw'] at h
    exact Oper.wp_mono (fun a' w' hk => hk w' (Later.refl _)) h
  · have h := h w (Later.refl _)
    rw [if_neg hw'] at h
    exact (h w (Later.refl _)).2
theorem k_end (hsub : oF.Sublist own) (hro : ∀ s ∈ rF, s ∈ ro) (h : S (wpJ P lops.toArray oF rF K t) n l own ro) : S (fun a w => Mem w oF rF ∧ wpJ P lops.toArray oF rF K t a w) n l own ro := fun a w ha hw => ⟨hw.less hsub hro, h a w ha hw⟩
theorem k_nil : S (wpJ P lops.toArray oF rF K .nil) n l own ro := fun _ _ _ _ => trivial
theorem k_done {m : Nat} (h : WX P lops.toArray Q (fun a w => Q .normal a w) (tailFrom m lops.length) n l own ro) :
    S (wpJ P lops.toArray oF rF (fun a' w' => ∀ w'', Later w' w'' → wpList P lops.toArray Q (lops.drop m) a' w'') .done) n l own ro :=
  fun a w ha hw w2 h2 => wpList_of_X _ m a w2 rfl (wpX_later h2 (h a w ha hw))
end
end Go.PK

/- Of the proofs of YtaniaihoodgmpaaGreatDoor; see NOTES.md. -/
/-! A serial that a call has made: its blocks are new. -/
namespace Go.PK
open Go Go.RowKit
set_option linter.unusedVariables false
structure SerRdD (D : Nat → Prop) (w : World) (b : Nat) (p : Pat) (es : List Ent) (v1 v2 v3 : Value) : Prop where
  blk : D b
  cells : ∀ j (hj : j < [Value.int .i64 p.first, Value.int .i64 p.days, v1, v2, v3].length), w.cell? ⟨b, j, none⟩ = some [Value.int .i64 p.first, Value.int .i64 p.days, v1, v2, v3][j]
  lvs : sliceRd tyI D w v1 p.lv
  sts : sliceRd tyI D w v2 p.st
  fst : in64 p.first
  dys : in64 p.days
  ent : sliceRd tyEnt D w v3 es
theorem SerRdD.keep {D D' : Nat → Prop} {w w' : World} {b : Nat} {p : Pat} {es : List Ent} {v1 v2 v3 : Value} (h : SerRdD D w b p es v1 v2 v3) (hk : Kept D D' w w') : SerRdD D' w' b p es v1 v2 v3 := by
  have hb : b < w.heap.size := cell_lt (p := ⟨b, 0, none⟩) (h.cells 0 (by show 0 < 5; decide))
  obtain ⟨h1, h2⟩ := hk b h.blk hb
  exact ⟨h1, fun j hj => (cell_keep h2).trans (h.cells j hj), h.lvs.keep hk, h.sts.keep hk, h.fst, h.dys, h.ent.keep hk⟩
theorem SerRdD.rd {D : Nat → Prop} {w : World} {b : Nat} {p : Pat} {es : List Ent} {v1 v2 v3 : Value} (h : SerRdD D w b p es v1 v2 v3) : SerRd w b p es v1 v2 v3 := by
  have h' := h.keep (D' := fun _ => True) (w' := w) (fun k hk hlt => ⟨trivial, rfl⟩)
  exact ⟨h'.cells, h'.lvs, h'.sts, h'.fst, h'.dys, h'.ent⟩
theorem SerRdD.new {wa wb w1 : World} {own own1 : List (Nat × Obj)} {ro ro1 : List Snap} {b : Nat} {p : Pat} {es : List Ent} {v1 v2 v3 : Value} (h : SerRdD (fun b => wa.heap.size ≤ b) wb b p es v1 v2 v3) (hw1 : Mem w1 own1 ro1) (hs : (wb, notOwn own) ∈ ro1) (hm : Mem wa own ro) : SerRd w1 b p es v1 v2 v3 :=
  (h.keep (D' := fun _ => True) (w' := w1) fun k hk hlt => ⟨trivial, hw1.ro_at _ hs k (fun p hp he => by have := hm.lt hp; omega) hlt⟩).rd
/-- What Open hands over. -/
def OpOK (D : Nat → Prop) (w : World) (v : Value) (o : Option (Pat × List Ent)) : Prop := match o with
  | none => v = .pointer none
  | some x => ∃ b v1 v2 v3, v = .pointer (some ⟨b, 0, none⟩) ∧ SerRdD D w b x.1 x.2 v1 v2 v3
end Go.PK

/- Of the proofs of YtaniaihoodgmpaaGreatDoor; see NOTES.md. -/
/-! Readers under a bound on the bulk. -/
namespace Go.PK
open Go Go.ChangeShapes Go.WideShapes Go.ChangeAt Go.RowKit
set_option linter.unusedVariables false
/-- A measure of readings. -/
structure Meas (H : Type) where
  f : DataW H → Nat
  all : List (DataW H) → Nat
  str : ∀ bs, f (.lit (.string bs)) = bs.length + 1
  slice : ∀ es sp, f (.slice es sp) = all es + all sp + 1
  agg : ∀ ps, f (.agg ps) = all ps + 1
  cons : ∀ d r, all (d :: r) = f d + all r
  one : ∀ d, 1 ≤ f d
theorem Meas.mem_le {H : Type} (M : Meas H) : ∀ {l : List (DataW H)} {d : DataW H}, d ∈ l → M.f d ≤ M.all l
  | x :: r, d, h => by
    rw [M.cons]
    rcases List.mem_cons.1 h with rfl | h
    · omega
    · have := M.mem_le h; omega
structure RdrN {α : Type} (P : Program) (t : TypeId) (T : Ty α) (N : Nat) : Prop where
  size : P.cellsOf t = T.size
  pos : 0 < T.size
  rd : ∀ {H : Type} {enc : TypeId × Value → H} {w : World} {base : Nat} {sp : Nat → Bool} {held : Bool} {fuel : Nat} {cs : List Value} {x : DataW H × List MemPlace} (M : Meas H), M.f x.1 ≤ N → DataW.trod enc P w base sp held fuel t cs = some x → ∃ y, T.rd (fun _ => True) w cs y
theorem Rdr.N {α : Type} {P : Program} {t : TypeId} {T : Ty α} {N : Nat} (R : Rdr P t T) : RdrN P t T N := ⟨R.size, R.pos, fun _ _ h => R.rd h⟩
def tyStrN (N : Nat) : Ty ByteArray where
  size := 1
  rd := fun _ _ cs x => cs = [.string x] ∧ x.size ≤ N
  len := fun h => by rw [h.1]; rfl
  keep := fun h _ => h
def tySliceN {α : Type} (T : Ty α) (N : Nat) : Ty (List α) where
  size := 1
  rd := fun D w cs xs => ∃ v, cs = [v] ∧ sliceRd T D w v xs ∧ xs.length ≤ N
  len := fun ⟨v, h, _⟩ => by rw [h]; rfl
  keep := fun ⟨v, h, h2, h3⟩ hk => ⟨v, h, h2.keep hk, h3⟩
section
variable {P : Program} {H : Type} {enc : TypeId × Value → H}
end
section
variable {H : Type} {enc : TypeId × Value → H} {P : Program} {W : World} {base b0 : Nat} {sp : Nat → Bool} {held : Bool} {r : Reach} {t e : TypeId} {v : Value} {d : DataW H} {ps : List MemPlace}
theorem top_strN {N : Nat} (ht : P.underlying t = some .string) (M : Meas H) (hM : M.f d ≤ N) (hval : Value.okWide P W r b0 t v) (h : DataW.Trod enc P W base sp held t v d ps) : ∃ s, v = .string s ∧ s.size ≤ N := by
  obtain ⟨n, hn⟩ := h
  obtain ⟨s, hs, hx, hw⟩ := DataW.trod_string ht hn
  have : v = .string s := by
    cases v <;> simp_all [Value.okWide, Cell.okWide, Cell.ok, Value.cells]
  subst this
  have hx : d = .lit (.string s.data.toList) := congrArg Prod.fst hx
  subst hx
  rw [M.str] at hM
  have e : s.data.toList.length = s.size := by rw [Array.length_toList]; rfl
  exact ⟨s, rfl, by omega⟩
theorem sliceRd.each {α : Type} {T : Ty α} {D : Nat → Prop} {v : Value} {xs : List α} {w : World} (h : sliceRd T D w v xs) {Q : α → Prop} (hT : ∀ cs x, T.rd D w cs x → Q x) : ∀ x ∈ xs, Q x := by
  intro x hx
  obtain ⟨A, c, h1, h2, h3, h4⟩ := h
  obtain ⟨b, off, e, hD, hb, hc⟩ := h4 (List.length_pos_of_mem hx)
  obtain ⟨j, hj, rfl⟩ := List.getElem_of_mem hx
  obtain ⟨cs, k1, k2⟩ := hc j hj
  exact hT _ _ k2
end
end Go.PK

/- Of the proofs of YtaniaihoodgmpaaGreatDoor; see NOTES.md. -/
/-! What an order reads as. -/
namespace Go.PK
open Go Go.RowKit
set_option linter.unusedVariables false
abbrev tyRecU : Ty (Int × Int × Unit) := tyCons tyI (tyCons tyI tyNil)
abbrev tyOrdU : Ty (Int × Int × (Int × Int × Unit) × Int × Int × Int × Int × Int × Unit) := tyCons tyI (tyCons tyI (tyCons tyRecU (tyCons tyI (tyCons tyI (tyCons tyI (tyCons tyI (tyCons tyI tyNil)))))))
end Go.PK

/- Of the proofs of YtaniaihoodgmpaaGreatDoor; see NOTES.md. -/
/-! Records under a bound on the bulk. -/
namespace Go.PK
open Go Go.ChangeShapes Go.WideShapes Go.ChangeAt Go.RowKit
set_option linter.unusedVariables false
inductive FldsN (P : Program) (N : Nat) : Nat → List Field → (β : Type) → Ty β → Prop where
  | nil (off : Nat) : FldsN P N off [] Unit tyNil
  | cons {α β : Type} {T : Ty α} {U : Ty β} {off : Nat} {f : Field} {fs : List Field} (ho : f.offset = off) (R : RdrN P f.type T N) (h : FldsN P N (off + T.size) fs β U) : FldsN P N off (f :: fs) (α × β) (tyCons T U)
end Go.PK
