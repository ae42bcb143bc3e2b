/- Of the proofs of Ytmihkbciilloaaa; see NOTES.md. -/
import Derived.Test.YtmihkbciilloaaaPkDeep2
/-! Texts play no part. -/
namespace Go.PK
open Go Go.RowKit
set_option linter.unusedVariables false
def sameT (f g : Fl) : Prop := f.tag = g.tag ∧ f.ind = g.ind ∧ f.data = g.data ∧ f.subs.map (·.code) = g.subs.map (·.code)
theorem sameT.refl (f : Fl) : sameT f f := ⟨rfl, rfl, rfl, rfl⟩
theorem sameT.trans {f g h : Fl} (a : sameT f g) (b : sameT g h) : sameT f h := ⟨a.1.trans b.1, a.2.1.trans b.2.1, a.2.2.1.trans b.2.2.1, a.2.2.2.trans b.2.2.2⟩
def sameTs (fs gs : List Fl) : Prop := fs.length = gs.length ∧ ∀ j (h1 : j < fs.length) (h2 : j < gs.length), sameT fs[j] gs[j]
theorem cdAt_map (l : List Sb) (j : Nat) : cdAt l j = (l.map (·.code)).getD j 0 := by
  unfold cdAt
  rw [List.getD_eq_getElem?_getD, List.getD_eq_getElem?_getD, List.getElem?_map]
  cases l[j]? <;> rfl
theorem dup_same {single : ByteArray} {l m : List Sb} (h : l.map (·.code) = m.map (·.code)) : dup single l = dup single m := by
  have hl : l.length = m.length := by simpa using congrArg List.length h
  have hc : cdAt l = cdAt m := funext fun j => by rw [cdAt_map, cdAt_map, h]
  rw [dup_eq, dup_eq]
  unfold dupB
  rw [hc, hl]
theorem shp_same {f g : Fl} (h : sameT f g) : shp f = shp g := by
  obtain ⟨h1, h2, h3, h4⟩ := h
  have hn : (f.subs = []) ↔ (g.subs = []) := by
    have hl : f.subs.length = g.subs.length := by simpa using congrArg List.length h4
    rw [← List.length_eq_zero_iff, ← List.length_eq_zero_iff, hl]
  unfold shp
  rw [h1, h2, h3]
  simp only [hn, ne_eq]
theorem any_code {p : UInt8 → Bool} (l : List Sb) : l.any (fun s => p s.code) = (l.map (·.code)).any p := by rw [List.any_map]; rfl
theorem take_tags {fs gs : List Fl} (h : sameTs fs gs) (n : Nat) (p : ByteArray → Bool) : (fs.take n).any (fun f => p f.tag) = (gs.take n).any (fun f => p f.tag) := by
  have e : fs.map (·.tag) = gs.map (·.tag) := by
    apply List.ext_getElem
    · simpa using h.1
    · intro j a b
      rw [List.getElem_map, List.getElem_map]
      exact (h.2 j (by simpa using a) (by simpa using b)).1
  have e2 : ∀ l : List Fl, (l.take n).any (fun f => p f.tag) = ((l.map (·.tag)).take n).any p := fun l => by rw [← List.map_take, List.any_map]; rfl
  rw [e2, e2, e]
theorem any_tags {fs gs : List Fl} (h : sameTs fs gs) (p : ByteArray → Bool) : fs.any (fun f => p f.tag) = gs.any (fun f => p f.tag) := by
  have := take_tags h fs.length p
  rwa [List.take_length, h.1, List.take_length] at this
theorem tfail_same {r : Rl} {fs gs : List Fl} {f g : Fl} {n : Nat} (hs : sameTs fs gs) (h : sameT f g) : ∀ j, tfail r fs f n j = tfail r gs g n j
  | 0 => by unfold tfail; rw [h.1, take_tags hs n (fun t => decide (t = g.tag))]; rfl
  | 1 => by unfold tfail; rw [h.2.1]; rfl
  | 2 => by
    unfold tfail
    rw [any_code (p := fun c => !hasB r.codes c), any_code (p := fun c => !hasB r.codes c), h.2.2.2]; rfl
  | _ + 3 => by unfold tfail; exact dup_same h.2.2.2
theorem fpb_same {rs : List Rl} {fs gs : List Fl} {f g : Fl} {n : Nat} (hs : sameTs fs gs) (h : sameT f g) : fpb rs fs f n = fpb rs gs g n := by
  have ht : ∀ r, tst r fs f n = tst r gs g n := fun r => funext fun j => by unfold tst; rw [tfail_same hs h, h.1]
  unfold fpb tpb
  rw [shp_same h, h.1]
  simp only [ht]
theorem chk_same {rs : List Rl} {fs gs : List Fl} (hs : sameTs fs gs) : chk rs fs = chk rs gs := by
  have hF : ∀ k, k ≤ fs.length → chkF rs fs k = chkF rs gs k := by
    intro k
    induction k with
    | zero => intro _; rfl
    | succ k ih =>
      intro hk
      rw [chkF_succ (by omega), chkF_succ (by have := hs.1; omega), ih (by omega), fpb_same hs (hs.2 k (by omega) (by have := hs.1; omega))]
  have hM : ∀ k, k ≤ rs.length → chkM rs fs k = chkM rs gs k := by
    intro k
    induction k with
    | zero => intro _; show chkF rs fs fs.length = chkF rs gs gs.length; rw [hF _ (Nat.le_refl _), hs.1]
    | succ k ih =>
      intro hk
      rw [chkM_succ (by omega), chkM_succ (by omega), ih (by omega)]
      unfold mpb
      rw [any_tags hs (fun t => mtc rs[k].tag t)]
  exact hM _ (Nat.le_refl _)
theorem sameTs.refl (fs : List Fl) : sameTs fs fs := ⟨rfl, fun _ _ _ => sameT.refl _⟩
theorem sameTs.set {fs gs : List Fl} (h : sameTs fs gs) {k : Nat} (hk : k < gs.length) {g : Fl} (hg : sameT gs[k] g) : sameTs fs (gs.set k g) := by
  refine ⟨by rw [List.length_set]; exact h.1, fun j h1 h2 => ?_⟩
  rw [List.length_set] at h2
  by_cases hj : k = j
  · subst hj
    rw [List.getElem_set_self]
    exact (h.2 k h1 h2).trans hg
  · rw [List.getElem_set_ne hj]
    exact h.2 j h1 h2
def retx (f : Fl) (j : Nat) (t : ByteArray) : Fl := { f with subs := f.subs.modify j (fun s => ⟨s.code, t⟩) }
theorem retx_same (f : Fl) (j : Nat) (t : ByteArray) : sameT f (retx f j t) := by
  refine ⟨rfl, rfl, rfl, ?_⟩
  unfold retx
  apply List.ext_getElem
  · simp
  · intro i a b
    simp only [List.getElem_map, List.getElem_modify]
    split <;> rfl
theorem retx_len (f : Fl) (j : Nat) (t : ByteArray) : (retx f j t).subs.length = f.subs.length := by unfold retx; simp
theorem put_row {n m j : Nat} {F G new : List Value} (hF : F.length = n * m) (hj : j < n) (hnew : new.length = m) : ((F ++ G).take (j * m) ++ new ++ (F ++ G).drop (j * m + m)).take (n * m) = F.take (j * m) ++ new ++ F.drop (j * m + m) := by
  have hle : j * m + m ≤ n * m := by
    have : (j + 1) * m ≤ n * m := Nat.mul_le_mul_right _ (by omega)
    rw [Nat.add_mul] at this; omega
  have e1 : List.take (j * m) (F ++ G) = F.take (j * m) := List.take_append_of_le_length (by omega)
  have e2 : List.drop (j * m + m) (F ++ G) = F.drop (j * m + m) ++ G := List.drop_append_of_le_length (by omega)
  rw [e1, e2, ← List.append_assoc]
  exact List.take_left' (by simp only [List.length_append, List.length_take, List.length_drop]; omega)
theorem modify_set {xs : List Sb} {j : Nat} (hj : j < xs.length) (g : Sb → Sb) : xs.modify j g = xs.set j (g xs[j]) := by
  apply List.ext_getElem
  · simp
  · intro i a b
    rw [List.getElem_modify, List.getElem_set]
    split
    · rename_i e; subst e; rfl
    · rfl
theorem sub_set {b c : Nat} {cs : List Value} {xs : List Sb} (h : rowOK 2 (some (b, cs, c)) xs.length (xs.flatMap sbC)) {j : Nat} (hj : j < xs.length) (t : ByteArray) :
    rowOK 2 (some (b, cs.take (j * 2 + 1) ++ [Value.string t] ++ cs.drop (j * 2 + 1 + 1), c)) (xs.modify j (fun s => ⟨s.code, t⟩)).length ((xs.modify j (fun s => ⟨s.code, t⟩)).flatMap sbC) := by
  obtain ⟨h1, h3, h4, h5, h6⟩ := h
  simp only at h3 h4 h5 h6
  have hF : (xs.flatMap sbC).length = xs.length * 2 := h1
  have hcs : cs = xs.flatMap sbC ++ cs.drop (xs.length * 2) := by rw [← h6, List.take_append_drop]
  have hj0 : (cs)[j * 2]? = some (Value.int .u8 xs[j].code.toNat) := by
    have := flat_get (f := sbC) (m := 2) (fun _ => rfl) xs j hj 0 (by omega)
    rw [← h6, List.getElem?_take_of_lt (by omega)] at this
    simpa [sbC] using this
  have e3 : cs.take (j * 2 + 1) ++ [Value.string t] ++ cs.drop (j * 2 + 1 + 1) = cs.take (j * 2) ++ sbC ⟨xs[j].code, t⟩ ++ cs.drop (j * 2 + 2) := by
    have hlt : j * 2 < cs.length := by omega
    rw [List.take_succ_eq_append_getElem hlt]
    rw [List.getElem?_eq_getElem hlt] at hj0
    rw [Option.some.inj hj0]
    simp [sbC]
  have e4 : (xs.modify j (fun s => ⟨s.code, t⟩)).flatMap sbC = (xs.flatMap sbC).take (j * 2) ++ sbC ⟨xs[j].code, t⟩ ++ (xs.flatMap sbC).drop (j * 2 + 2) := by
    rw [modify_set hj, List.flatMap_def, List.flatMap_def, List.map_set, flatten_set (m := 2) (xs.map sbC) (fun k hk => by rw [List.getElem_map]; rfl) j (by simpa using hj)]
  refine ⟨by rw [e4]; simp only [List.length_append, List.length_take, List.length_drop, List.length_modify, hF, sbC, List.length_cons, List.length_nil]; omega, ?_⟩
  simp only [List.length_modify]
  refine ⟨h3, h4, ?_, ?_⟩
  · rw [e3]; simp only [List.length_append, List.length_take, List.length_drop, sbC, List.length_cons, List.length_nil]; omega
  · rw [e3, e4]
    have := put_row (G := cs.drop (xs.length * 2)) (new := sbC ⟨xs[j].code, t⟩) hF hj rfl
    rwa [← hcs] at this
theorem DeepOK.retext {R : RowS} {Ss : List RowS} {fs : List Fl} (h : DeepOK R Ss fs) {k : Nat} (hk : k < fs.length) (hS : k < Ss.length) {b c : Nat} {cs : List Value} (hSk : Ss[k] = some (b, cs, c)) {j : Nat} (hj : j < fs[k].subs.length) {t : ByteArray} (ht : okS t) :
    DeepOK R (Ss.set k (some (b, cs.take (j * 2 + 1) ++ [Value.string t] ++ cs.drop (j * 2 + 1 + 1), c))) (fs.set k (retx fs[k] j t)) := by
  have hz : List.zipWith flS (fs.set k (retx fs[k] j t)) (Ss.set k (some (b, cs.take (j * 2 + 1) ++ [Value.string t] ++ cs.drop (j * 2 + 1 + 1), c))) = List.zipWith flS fs Ss := by
    apply List.ext_getElem
    · simp
    · intro i a1 a2
      rw [List.getElem_zipWith, List.getElem_zipWith, List.getElem_set, List.getElem_set]
      split
      · rename_i e; subst e
        rw [hSk]
        unfold flS
        rw [retx_len]
        rfl
      · rfl
  refine ⟨by simp [h.len], ?_, fun i a1 a2 => ?_, fun f hf => ?_⟩
  · rw [hz, List.length_set]; exact h.row
  · simp only [List.length_set] at a1 a2
    by_cases hi : k = i
    · subst hi
      simp only [List.getElem_set_self]
      have h0 := h.subs k hS hk
      rw [hSk] at h0
      exact sub_set h0 hj t
    · simp only [List.getElem_set_ne hi]
      exact h.subs i a1 a2
  · rcases List.mem_or_eq_of_mem_set hf with hf | rfl
    · exact h.ok f hf
    · have h0 := h.ok _ (List.getElem_mem hk)
      refine ⟨h0.1, fun s hs => ?_⟩
      obtain ⟨i, hi, rfl⟩ := List.getElem_of_mem hs
      simp only [retx, List.getElem_modify]
      split
      · exact ht
      · exact h0.2 _ (List.getElem_mem _)
theorem DeepOK.sub_at {R : RowS} {Ss : List RowS} {fs : List Fl} (h : DeepOK R Ss fs) {k : Nat} (hk : k < fs.length) (hS : k < Ss.length) (hj : 0 < fs[k].subs.length) : ∃ b cs c, Ss[k] = some (b, cs, c) ∧ fs[k].subs.length * 2 ≤ cs.length := by
  obtain ⟨h1, h2⟩ := h.subs k hS hk
  cases hS' : Ss[k] with
  | none => rw [hS'] at h2; simp only at h2; omega
  | some x => obtain ⟨b, cs, c⟩ := x; rw [hS'] at h2; obtain ⟨h3, h4, h5, h6⟩ := h2; simp only at h3 h4 h5; exact ⟨b, cs, c, rfl, by omega⟩
end Go.PK
