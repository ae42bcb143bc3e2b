/- Of the proofs of Ytmihkbciilloaaa; see NOTES.md. -/
import Derived.Test.YtmihkbciilloaaaPkDeep
namespace Go.PK
open Go Go.RowKit
set_option linter.unusedVariables false
theorem flatten_set {m : Nat} : ∀ (css : List (List Value)) (hl : ∀ j (h : j < css.length), css[j].length = m) (n : Nat) (hn : n < css.length) (x : List Value),
    (css.set n x).flatten = css.flatten.take (n * m) ++ x ++ css.flatten.drop (n * m + m)
  | [], _, n, hn, _ => by simp at hn
  | c :: css, hl, 0, hn, x => by
    have h0 : c.length = m := hl 0 (by simp)
    rw [List.set_cons_zero, List.flatten_cons, List.flatten_cons, Nat.zero_mul, Nat.zero_add, List.take_zero, List.nil_append, ← h0, List.drop_left]
  | c :: css, hl, n + 1, hn, x => by
    have h0 : c.length = m := hl 0 (by simp)
    have e : (n + 1) * m = c.length + n * m := by rw [Nat.add_mul, h0]; omega
    rw [List.set_cons_succ, List.flatten_cons, List.flatten_cons, flatten_set css (fun k h => hl (k + 1) (by simpa using h)) n (by simpa using hn) x, e, Nat.add_assoc, List.take_length_add_append, List.drop_length_add_append]
    simp [List.append_assoc]
theorem flS_len (f : Fl) (S : RowS) : (flS f S).length = 4 := rfl
theorem zw_get {fs : List Fl} {Ss : List RowS} {j : Nat} (h1 : j < fs.length) (h2 : j < Ss.length) (h : j < (List.zipWith flS fs Ss).length) : (List.zipWith flS fs Ss)[j] = flS fs[j] Ss[j] := List.getElem_zipWith
theorem zw_m {fs : List Fl} {Ss : List RowS} (j : Nat) (h : j < (List.zipWith flS fs Ss).length) : (List.zipWith flS fs Ss)[j].length = 4 := by rw [List.getElem_zipWith]; rfl
theorem zw_flat {fs : List Fl} {Ss : List RowS} (h : Ss.length = fs.length) : (List.zipWith flS fs Ss).flatten.length = fs.length * 4 := by
  rw [List.length_flatten]
  have : (List.zipWith flS fs Ss).map List.length = List.replicate fs.length 4 := by
    apply List.ext_getElem
    · simp [h]
    · intro j h1 h2
      rw [List.getElem_map, List.getElem_replicate]
      exact zw_m j (by simpa using h1)
  rw [this]; simp
/-- The row of the fields, where there are some. -/
theorem DeepOK.there {R : RowS} {Ss : List RowS} {fs : List Fl} (h : DeepOK R Ss fs) (hl : 0 < fs.length) : ∃ b cs c, R = some (b, cs, c) ∧ fs.length ≤ c ∧ c ≤ maxLen ∧ cs.length = c * 4 ∧ cs.take (fs.length * 4) = (List.zipWith flS fs Ss).flatten := by
  obtain ⟨h1, h2⟩ := h.row
  cases R with
  | none => simp only at h2; omega
  | some x => obtain ⟨b, cs, c⟩ := x; obtain ⟨h3, h4, h5, h6⟩ := h2; exact ⟨b, cs, c, rfl, h3, h4, h5, h6⟩
theorem DeepOK.at {b c : Nat} {cs : List Value} {Ss : List RowS} {fs : List Fl} (h : DeepOK (some (b, cs, c)) Ss fs) {n : Nat} (h1 : n < fs.length) (h2 : n < Ss.length) {i : Nat} (hi : i < 4) : cs[n * 4 + i]? = (flS fs[n] Ss[n])[i]? := by
  obtain ⟨b', cs', c', e, h3, h4, h5, h6⟩ := h.there (by omega)
  injection e with e; injection e with e1 e2; injection e2 with e2 e3; subst e1 e2 e3
  have hz := zw_len h.len
  have := flatten_get (m := 4) (List.zipWith flS fs Ss) (fun j h => zw_m j h) n (by omega) i hi
  rw [zw_get h1 h2, ← h6, List.getElem?_take_of_lt (by omega)] at this
  exact this
theorem DeepOK.set {b c : Nat} {cs : List Value} {Ss : List RowS} {fs : List Fl} (h : DeepOK (some (b, cs, c)) Ss fs) {n : Nat} (h1 : n < fs.length) {g : Fl} {S : RowS} (hs : rowOK 2 S g.subs.length (g.subs.flatMap sbC)) (hg : g.good) :
    DeepOK (some (b, cs.take (n * 4) ++ flS g S ++ cs.drop (n * 4 + 4), c)) (Ss.set n S) (fs.set n g) := by
  obtain ⟨b', cs', c', e, h3, h4, h5, h6⟩ := h.there (by omega)
  injection e with e; injection e with e1 e2; injection e2 with e2 e3; subst e1 e2 e3
  have hz := zw_len h.len
  have hfl := zw_flat h.len
  have h2 : n < Ss.length := by rw [h.len]; exact h1
  have hzs : List.zipWith flS (fs.set n g) (Ss.set n S) = (List.zipWith flS fs Ss).set n (flS g S) := by
    apply List.ext_getElem
    · simp
    · intro j a1 a2
      rw [List.getElem_zipWith, List.getElem_set, List.getElem_set, List.getElem_set]
      split
      · rfl
      · rw [List.getElem_zipWith]
  refine ⟨by simp [h.len], ⟨?_, ?_⟩, fun j a1 a2 => ?_, fun f hf => ?_⟩
  · rw [hzs, flatten_set (m := 4) _ (fun j h => zw_m j h) n (by omega)]
    simp only [List.length_append, List.length_take, List.length_drop, hfl, flS_len, List.length_set]
    omega
  · have hcs : cs = (List.zipWith flS fs Ss).flatten ++ cs.drop (fs.length * 4) := by rw [← h6, List.take_append_drop]
    refine ⟨by simpa using h3, h4, ?_, ?_⟩
    · simp only [List.length_append, List.length_take, List.length_drop, flS_len]; omega
    · rw [List.length_set, hzs, flatten_set (m := 4) _ (fun j h => zw_m j h) n (by omega)]
      generalize (List.zipWith flS fs Ss).flatten = F at hcs hfl
      generalize cs.drop (fs.length * 4) = G at hcs
      have e1 : List.take (n * 4) (F ++ G) = F.take (n * 4) := List.take_append_of_le_length (by omega)
      have e2 : List.drop (n * 4 + 4) (F ++ G) = F.drop (n * 4 + 4) ++ G := List.drop_append_of_le_length (by omega)
      rw [hcs, e1, e2, ← List.append_assoc]
      exact List.take_left' (by simp only [List.length_append, List.length_take, List.length_drop, flS_len]; omega)
  · simp only [List.length_set] at a1 a2
    by_cases hj : n = j
    · subst hj
      simp only [List.getElem_set_self]; exact hs
    · simp only [List.getElem_set_ne hj]
      exact h.subs j a1 a2
  · rcases List.mem_or_eq_of_mem_set hf with hf | rfl
    · exact h.ok f hf
    · exact hg
theorem subs_rd {own : List (Nat × Obj)} {ro : List Snap} {w : World} {D : Nat → Prop} {S : RowS} {xs : List Sb} (hr : rowOK 2 S xs.length (xs.flatMap sbC)) (hok : ∀ s ∈ xs, okS s.text) (hm : Mem w own ro) (hin : ∀ p ∈ rowO 48 S, p ∈ own) (hD : ∀ p ∈ own, D p.1) : sliceRd tySb D w (rowV S xs.length) xs := by
  have h : RowT tySb (fun _ => False) w S xs := ⟨xs.map sbC, by simp, by rw [← List.flatMap_def]; exact hr, fun j a1 a2 => by
    rw [List.getElem_map]; exact ⟨rfl, hok _ (List.getElem_mem a2)⟩⟩
  exact h.rd hm hin (fun _ hx => hx.elim) (fun p hp => hD p (hin p hp)) rfl
theorem DeepOK.rd {own : List (Nat × Obj)} {ro : List Snap} {w : World} {D : Nat → Prop} {R : RowS} {Ss : List RowS} {fs : List Fl} (h : DeepOK R Ss fs) (hm : Mem w own ro) (hR : ∀ p ∈ rowO 46 R, p ∈ own) (hS : ∀ p ∈ subsO Ss, p ∈ own) (hD : ∀ p ∈ own, D p.1) : sliceRd tyFl D w (rowV R fs.length) fs := by
  have hz := zw_len h.len
  have hT : RowT tyFl D w R fs := ⟨List.zipWith flS fs Ss, hz, h.row, fun j a1 a2 => by
    have a3 : j < Ss.length := by rw [h.len]; exact a2
    rw [zw_get a2 a3]
    refine ⟨_, rfl, (h.ok _ (List.getElem_mem a2)).1, subs_rd (h.subs j a3 a2) (h.ok _ (List.getElem_mem a2)).2 hm (fun p hp => hS p ?_) hD⟩
    unfold subsO
    exact List.mem_flatMap.2 ⟨Ss[j], List.mem_reverse.2 (List.getElem_mem a3), hp⟩⟩
  exact hT.rd hm hR (fun _ h => h) (fun p hp => hD p (hR p hp)) rfl
theorem subsO_split {Ss : List RowS} {n : Nat} (h : n < Ss.length) : subsO Ss = subsO (Ss.drop (n + 1)) ++ (rowO 48 Ss[n] ++ subsO (Ss.take n)) := by
  rw [← subsO_mid, List.getElem_cons_drop, List.take_append_drop]
theorem subsO_set {Ss : List RowS} {n : Nat} (h : n < Ss.length) (S : RowS) : subsO (Ss.set n S) = subsO (Ss.drop (n + 1)) ++ (rowO 48 S ++ subsO (Ss.take n)) := by
  rw [← subsO_mid, List.set_eq_take_append_cons_drop, if_pos h]
end Go.PK
