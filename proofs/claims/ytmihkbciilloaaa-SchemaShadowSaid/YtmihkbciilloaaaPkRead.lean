/- Of the proofs of Ytmihkbciilloaaa; see NOTES.md. -/
import Derived.Test.YtmihkbciilloaaaPkSchema
namespace Go.PK
open Go Go.RowKit
set_option linter.unusedVariables false
theorem flat_get {α : Type} {f : α → List Value} {m : Nat} (hf : ∀ x, (f x).length = m) : ∀ (xs : List α) (j : Nat) (hj : j < xs.length) (i : Nat), i < m → (xs.flatMap f)[j * m + i]? = (f xs[j])[i]?
  | [], j, hj, _, _ => by simp at hj
  | x :: xs, 0, _, i, hi => by
    rw [List.flatMap_cons, List.getElem?_append_left (by rw [hf]; omega)]; simp
  | x :: xs, j + 1, hj, i, hi => by
    rw [List.flatMap_cons, List.getElem?_append_right (by rw [hf, Nat.add_mul]; omega), hf, show (j + 1) * m + i - m = j * m + i by rw [Nat.add_mul]; omega]
    exact flat_get hf xs j (by simpa using hj) i hi
theorem lit_rd {α : Type} {T : Ty α} {D : Nat → Prop} {f : α → List Value} {w : World} {b c : Nat} {e : TypeId} {cs : List Value} {fz : Nat × Nat} {xs : List α} (hf : ∀ x, (f x).length = T.size) (hb : w.heap[b]? = some (.cells cs.toArray e fz))
    (hcs : cs.take (xs.length * T.size) = xs.flatMap f) (hlen : xs.length ≤ c) (hmx : xs.length ≤ 9223372036854775807) (hD : D b) (hrd : ∀ x ∈ xs, T.rd D w (f x) x) : sliceRd T D w (.slice (some ⟨b, 0, none⟩) xs.length c) xs := by
  refine ⟨_, c, rfl, hlen, hmx, fun h0 => ⟨b, 0, rfl, hD, heap_lt hb, fun j hj => ⟨f xs[j], fun i hi => ?_, hrd _ (List.getElem_mem hj)⟩⟩⟩
  have hi' : i < T.size := by rw [hf] at hi; exact hi
  have h1 := flat_get hf xs j hj i hi'
  have h2 : j * T.size + i < xs.length * T.size := by
    have : (j + 1) * T.size ≤ xs.length * T.size := Nat.mul_le_mul_right _ (by omega)
    rw [Nat.add_mul] at this
    omega
  rw [Nat.zero_add, cell_of_row w b _ cs.toArray e fz hb, List.getElem?_toArray]
  rw [← hcs, List.getElem?_take_of_lt h2] at h1
  rw [h1]
  exact List.getElem?_eq_getElem hi
theorem row_rd {w w' : World} {own : List (Nat × Obj)} {e : TypeId} {r : RowS} {ps : List Pb} (hm : Mem w' (own ++ rowO e r) [(w, fun _ => True)]) (hr : rowOK 2 r ps.length (ps.flatMap pbC)) : sliceRd tyPb (fun b => w.heap.size ≤ b) w' (rowV r ps.length) ps := by
  obtain ⟨h1, h2⟩ := hr
  cases r with
  | none =>
    simp only at h2
    exact ⟨none, 0, by simp [rowV, rowA, rowC], by omega, by omega, fun h => by omega⟩
  | some x =>
    obtain ⟨b, cs, c⟩ := x
    obtain ⟨h3, h4, h5, h6⟩ := h2
    have hmem : (b, Obj.cells cs.toArray e (0, 0)) ∈ own ++ rowO e (some (b, cs, c)) := by simp [rowO]
    refine lit_rd (f := pbC) (T := tyPb) (fun _ => rfl) (hm.own_at _ hmem) h6 h3 (by unfold maxLen at h4; omega) ?_ (fun _ _ => rfl)
    exact hm.apart _ hmem (w, fun _ => True) (by simp) trivial
end Go.PK
