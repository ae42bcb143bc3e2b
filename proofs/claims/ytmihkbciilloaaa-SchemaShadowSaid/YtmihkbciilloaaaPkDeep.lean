/- Of the proofs of Ytmihkbciilloaaa; see NOTES.md. -/
import Derived.Test.YtmihkbciilloaaaPkMade
import Derived.Laws.IdiomStrings
import Derived.Laws.OwnMore
/-! Appending a slice that was read; strings of bytes; records whose rows are all the call's own. -/
namespace Go.PK
open Go Go.RowKit
set_option linter.unusedVariables false
theorem Mem.to {w : World} {own own' : List (Nat × Obj)} {ro : List Snap} (h : Mem w own ro) (e : own = own') : Mem w own' ro := e ▸ h
theorem run_append_empty {P : Program} {w : World} (base : Nat) (t ty e : TypeId) (i : TypeInfo) (size c2 : Nat) (ht : P.underlying t = some (.slice e)) (hi : P.info? e = some i)
    (v : Value) (n : Nat) (xs : List Value) (hown : w.ownsRow base e size v n xs) :
    (Builtin.append_ #[t, t] ty #[v, .slice none 0 c2]).run P w = .ok v w := by
  rcases hown.2 with ⟨rfl, rfl⟩ | ⟨g, cap, cur, rfl, _, _, hnc, _⟩
  · simp [Builtin.append_, run_underlying ht, sizeOf, typeInfo, hi, Builtin.lenOf, Builtin.firstCells]
  · simp [Builtin.append_, run_underlying ht, sizeOf, typeInfo, hi, Builtin.lenOf, Builtin.firstCells, hnc, storeCells]
section
variable {P : Program} {n : Nat} {l : List (Nat × Value)} {own : List (Nat × Obj)} {ro : List Snap} {lops : List Oper} {Q : Exit → Act → World → Prop} {K : Act → World → Prop}
  {rest : List (Option Bool × Nat)} {k : Option Bool} {i d b off : Nat} {op : Op} {ty : TypeId} {pos : String} {af : Array Edge} {x y : Operand} {t t' : TypeId}
/-- 'append(s, u...)' onto a row of the call's own, whatever u is: nil, empty or not. -/
theorem x_append_any {e : TypeId} {z : Value} {size bytes m len c2 : Nat} {ao : Option Addr} {xs news : List Value} (l1 : List (Nat × Obj)) {l2 : List (Nat × Obj)} (r : RowS) (ho : lops[i]? = some ⟨some d, .call ⟨.builtin .append, #[x, y], #[t, t]⟩, ty, pos, af, none⟩) (hd : decide (d < n) = true)
    (hx : ev l x = some (rowV r len)) (hy : ev l y = some (.slice ao m c2)) (hown : own = l1 ++ rowO e r ++ l2) (hr : rowOK size r len xs)
    (ht : P.underlying t = some (.slice e)) (hi : (P.info? e).map (fun j => (j.zero, j.size, j.bytes)) = some (some z, size, bytes)) (hz : (decide (z.cells.size = size) && decide (0 < size)) = true)
    (hl : news.length = m * size) (hno : ao = none → m = 0) (hat : ∀ w, Mem w own ro → ∀ a, ao = some a → ∀ j u, news[j]? = some u → w.cell? (a.add j) = some u) (h1 : news.all (fun u => u.oneCell') = true)
    (hb1 : len + m ≤ maxLen) (hb2 : (len + m) * bytes ≤ 140737488355328)
    (h : ∀ r', rowOK size r' (len + m) (xs ++ news) → WX P lops.toArray Q K rest n ((d, rowV r' (len + m)) :: l) (l1 ++ rowO e r' ++ l2) ro) : WX P lops.toArray Q K ((none, i) :: rest) n l own ro := by
  intro a w ha hw
  have hd' : d < n := of_decide_eq_true hd
  have hw1 := go_none (lops := lops) (n := n) (l := l) (o := ⟨some d, .call ⟨.builtin .append, #[x, y], #[t, t]⟩, ty, pos, af, none⟩) rfl a ha
  simp only [wpX, List.getElem?_toArray, ho]
  intro w' hl'
  rw [if_pos hw1]
  have hM0 := hw.later hl'
  have hat' := hat w' hM0
  subst hown
  have hM := hM0
  obtain ⟨inf, hi1, hi2⟩ := Option.map_eq_some_iff.1 hi
  simp only [Prod.mk.injEq] at hi2
  obtain ⟨hiz, his, hib⟩ := hi2
  simp only [Bool.and_eq_true, decide_eq_true_eq] at hz
  unfold Oper.wp execOp
  cases ao with
  | none =>
    have hm0 := hno rfl
    subst hm0
    have hnews : news = [] := List.eq_nil_of_length_eq_zero (by simpa using hl)
    subst hnews
    have hrun := run_append_empty (P := P) (w := w') 0 t ty e inf size c2 ht hi1 (rowV r len) len xs (row_owns (own := []) hM hr)
    simp only [resolve, invoke, builtin, Sem.run_bind, Sem.run_pure, Result.andThen_ok, List.map_toArray, List.map_cons, List.map_nil, ha.eval hx, ha.eval hy, hrun]
    exact h r (by simpa using hr) _ _ (ha.put _ hd') hM
  | some a0 =>
    obtain ⟨v', w2, hrun, h2, h3, _, h5⟩ := run_append_own_at (P := P) w' 0 t ty e inf z size bytes ht hi1 hiz his hib hz.1 hz.2 (rowV r len) len xs (row_owns (own := []) hM hr) a0 m c2 news hl
      (hat' a0 rfl) (by simpa using h1) hb1 hb2 (Nat.zero_le _)
    obtain ⟨r', rfl, hok, hM2⟩ := hM.append h2 h3 h5
    simp only [resolve, invoke, builtin, Sem.run_bind, Sem.run_pure, Result.andThen_ok, List.map_toArray, List.map_cons, List.map_nil, ha.eval hx, ha.eval hy, hrun]
    exact h r' hok _ _ (ha.put _ hd') hM2
/-- '[]T{}'. -/
theorem x_buildSlice0 {e : TypeId} {m : Nat} (ho : lops[i]? = some ⟨some d, .buildSlice t 0 #[], ty, pos, af, none⟩) (hk : (k == some true) = false) (hd : decide (d < n) = true)
    (ht : P.underlying t = some (.slice e)) (hs : (P.info? e).map (·.size) = some m)
    (h : ∀ b, WX P lops.toArray Q K rest n ((d, .slice (some ⟨b, 0, none⟩) 0 0) :: l) ((b, .cells #[] e) :: own) ro) : WX P lops.toArray Q K ((k, i) :: rest) n l own ro :=
  x_new (f := fun b => .slice (some ⟨b, 0, none⟩) 0 0) ho (go_none rfl) rfl hk hd (fun A w ha hw => by
    simp [execOp, Instr.buildSlice, Sem.run_bind, run_underlying ht, Result.andThen_ok, run_sizeOf hs, Instr.fill, newRow, show ∀ g : Nat → Value, Array.map g (Array.range 0) = #[] from fun g => Array.eq_empty_of_size_eq_zero (by simp)]) h
/-- 'string(b)'. -/
theorem v_toStr {e : TypeId} {m c : Nat} (bs : List UInt8) (hs : P.underlying t = some (.slice e)) (he : P.underlying e = some (.int .u8)) (hd : P.underlying t' = some .string) (hx : ev l x = some (.slice (some ⟨b, off, none⟩) m c)) (hm : m = bs.length)
    (hc : ∀ j (hj : j < bs.length), At own ro b (off + j) (.int .u8 bs[j].toNat)) : OpV P n l own ro (.convert t t' x) ty (.string ⟨bs.toArray⟩) := by
  intro A w o ha hw ho _
  subst hm
  have := run_convert_bytes_back (P := P) w t t' e ⟨b, off, none⟩ c bs hs he hd (fun j hj => by rw [mk_add]; exact hc j hj w hw)
  simp [execOp, ho, ha.eval hx, this]
end
/-- The cells of a slice that reads as data. -/
theorem sliceRd.cells {α : Type} {T : Ty α} {D : Nat → Prop} {w : World} {A : Option Addr} {m c : Nat} {xs : List α} (h : sliceRd T D w (.slice A m c) xs) :
    ∃ css : List (List Value), css.length = xs.length ∧ m = xs.length ∧ css.flatten.length = m * T.size ∧ (∀ j (h1 : j < css.length) (h2 : j < xs.length), T.rd D w css[j] xs[j]) ∧ (A = none → m = 0) ∧
      (∀ a, A = some a → ∀ j u, css.flatten[j]? = some u → w.cell? (a.add j) = some u) ∧ (0 < xs.length → ∃ b off, A = some ⟨b, off, none⟩ ∧ D b ∧ b < w.heap.size) := by
  obtain ⟨A', c', e, h1, h2, h3⟩ := h
  injection e with e1 e2 e3
  subst e1 e2 e3
  cases xs with
  | nil => exact ⟨[], rfl, rfl, by simp, fun j h => by simp at h, fun _ => rfl, fun a _ j u hu => by simp at hu, fun h => by simp at h⟩
  | cons y ys =>
    obtain ⟨b, off, rfl, hD, hb, hc⟩ := h3 (by simp)
    have hc' : ∀ j : Fin (y :: ys).length, ∃ cs, (∀ i (hi : i < cs.length), w.cell? ⟨b, off + j.1 * T.size + i, none⟩ = some cs[i]) ∧ T.rd D w cs (y :: ys)[j.1] := fun j => hc j.1 j.2
    let f : Fin (y :: ys).length → List Value := fun j => (hc' j).choose
    have hf : ∀ j, (∀ i (hi : i < (f j).length), w.cell? ⟨b, off + j.1 * T.size + i, none⟩ = some (f j)[i]) ∧ T.rd D w (f j) (y :: ys)[j.1] := fun j => (hc' j).choose_spec
    have hlen : ∀ j (h : j < (List.ofFn f).length), (List.ofFn f)[j].length = T.size := fun j h => by
      rw [List.getElem_ofFn]; exact T.len (hf _).2
    have htot : (List.ofFn f).flatten.length = (y :: ys).length * T.size := by
      rw [List.length_flatten]
      have : (List.ofFn f).map List.length = List.replicate (y :: ys).length T.size := by
        apply List.ext_getElem
        · simp
        · intro j h1 h2
          rw [List.getElem_map, List.getElem_replicate]
          exact hlen j (by simpa using h1)
      rw [this]; simp
    refine ⟨List.ofFn f, by simp, rfl, htot, fun j h1 h2 => ?_, (fun h => by cases h), fun a ha j u hu => ?_, fun _ => ⟨b, off, rfl, hD, hb⟩⟩
    · rw [List.getElem_ofFn]; exact (hf ⟨j, h2⟩).2
    · obtain rfl := Option.some.inj ha
      have hj : j < (y :: ys).length * T.size := by
        rw [← htot]; exact (List.getElem?_eq_some_iff.1 hu).1
      have hs0 : 0 < T.size := by
        rcases Nat.eq_zero_or_pos T.size with h0 | h0
        · rw [h0] at hj; omega
        · exact h0
      have hq : j / T.size < (y :: ys).length := Nat.div_lt_of_lt_mul (by rw [Nat.mul_comm]; exact hj)
      have hr : j % T.size < T.size := Nat.mod_lt _ hs0
      have hjd : j / T.size * T.size + j % T.size = j := by rw [Nat.mul_comm]; exact Nat.div_add_mod j T.size
      have hg := flatten_get (List.ofFn f) hlen (j / T.size) (by simpa using hq) (j % T.size) hr
      rw [hjd, List.getElem_ofFn] at hg
      have hfl : (f ⟨j / T.size, hq⟩).length = T.size := T.len (hf _).2
      have hx := List.getElem?_eq_getElem (l := f ⟨j / T.size, hq⟩) (i := j % T.size) (by rw [hfl]; exact hr)
      rw [hx] at hg
      rw [hg] at hu
      obtain rfl := Option.some.inj hu
      have := (hf ⟨j / T.size, hq⟩).1 (j % T.size) (by rw [hfl]; exact hr)
      rw [mk_add, ← this, Nat.add_assoc, hjd]
def sbC (s : Sb) : List Value := [.int .u8 s.code.toNat, .string s.text]
theorem tySb_cells {D : Nat → Prop} {w : World} : ∀ {css : List (List Value)} {xs : List Sb}, css.length = xs.length → (∀ j (h1 : j < css.length) (h2 : j < xs.length), tySb.rd D w css[j] xs[j]) → css.flatten = xs.flatMap sbC ∧ ∀ s ∈ xs, okS s.text
  | [], [], _, _ => ⟨rfl, by simp⟩
  | c :: css, x :: xs, hl, h => by
    have h0 := h 0 (by simp) (by simp)
    have ih := tySb_cells (css := css) (xs := xs) (by simpa using hl) (fun j h1 h2 => h (j + 1) (by simpa using h1) (by simpa using h2))
    obtain ⟨he, hok⟩ := h0
    simp only [List.getElem_cons_zero] at he hok
    refine ⟨by rw [List.flatten_cons, List.flatMap_cons, ih.1, he]; rfl, fun s hs => ?_⟩
    rcases List.mem_cons.1 hs with rfl | hs
    · exact hok
    · exact ih.2 s hs
theorem sbC_one (xs : List Sb) : (xs.flatMap sbC).all (fun u => u.oneCell') = true := by
  rw [List.all_eq_true]
  intro u hu
  obtain ⟨s, _, hs⟩ := List.mem_flatMap.1 hu
  simp only [sbC, List.mem_cons, List.not_mem_nil, or_false] at hs
  rcases hs with rfl | rfl <;> rfl
/-- A list of fields whose rows are all the call's own: R the row of the fields, Ss the rows of their subfields. -/
def flS (f : Fl) (S : RowS) : List Value := [.string f.tag, .string f.ind, .string f.data, rowV S f.subs.length]
def Fl.good (f : Fl) : Prop := f.ok ∧ ∀ s ∈ f.subs, okS s.text
structure DeepOK (R : RowS) (Ss : List RowS) (fs : List Fl) : Prop where
  len : Ss.length = fs.length
  row : rowOK 4 R fs.length (List.zipWith flS fs Ss).flatten
  subs : ∀ j (h1 : j < Ss.length) (h2 : j < fs.length), rowOK 2 Ss[j] fs[j].subs.length (fs[j].subs.flatMap sbC)
  ok : ∀ f ∈ fs, f.good
/-- The rows of the subfields, the last first. -/
def subsO (Ss : List RowS) : List (Nat × Obj) := Ss.reverse.flatMap (rowO 48)
theorem subsO_nil : subsO [] = [] := rfl
theorem subsO_snoc (Ss : List RowS) (S : RowS) : subsO (Ss ++ [S]) = rowO 48 S ++ subsO Ss := by simp [subsO]
theorem subsO_mid (a b : List RowS) (S : RowS) : subsO (a ++ S :: b) = subsO b ++ (rowO 48 S ++ subsO a) := by simp [subsO]
theorem DeepOK.nil : DeepOK none [] [] := ⟨rfl, rowOK_nil, fun j h => by simp at h, by simp⟩
theorem zw_len {fs : List Fl} {Ss : List RowS} (h : Ss.length = fs.length) : (List.zipWith flS fs Ss).length = fs.length := by rw [List.length_zipWith, h, Nat.min_self]
theorem DeepOK.snoc {R R' S : RowS} {Ss : List RowS} {fs : List Fl} {f : Fl} {n : Nat} (h : DeepOK R Ss fs) (hn : n = fs.length) (hr : rowOK 4 R' (n + 1) ((List.zipWith flS fs Ss).flatten ++ flS f S)) (hs : rowOK 2 S f.subs.length (f.subs.flatMap sbC)) (hok : f.good) : DeepOK R' (Ss ++ [S]) (fs ++ [f]) where
  len := by simp [h.len]
  row := by
    subst hn
    rw [List.zipWith_append h.len.symm]
    simpa using hr
  subs := fun j h1 h2 => by
    by_cases hj : j < Ss.length
    · have hj2 : j < fs.length := by rw [← h.len]; exact hj
      rw [List.getElem_append_left hj]
      simp only [List.getElem_append_left hj2]
      exact h.subs j hj hj2
    · have hj2 : j = fs.length := by have := h.len; simp at h1 h2; omega
      subst hj2
      rw [List.getElem_append_right (by omega)]
      simp only [List.getElem_append_right (Nat.le_refl _)]
      simpa [h.len] using hs
  ok := fun g hg => by
    rcases List.mem_append.1 hg with hg | hg
    · exact h.ok g hg
    · rw [List.mem_singleton.1 hg]; exact hok
end Go.PK
