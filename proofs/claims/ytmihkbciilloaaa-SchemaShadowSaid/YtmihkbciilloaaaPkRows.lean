/- Of the proofs of Ytmihkbciilloaaa; see NOTES.md. -/
import Derived.Test.YtmihkbciilloaaaPkMore
import Derived.IntWalk
/-! Rows whose elements lie in other blocks; the memory is fixed where the ways turn. -/
namespace Go.PK
open Go Go.RowKit
set_option linter.unusedVariables false
section
variable {P : Program} {n : Nat} {l : List (Nat × Value)} {own own' : List (Nat × Obj)} {ro : List Snap} {lops : List Oper} {Q : Exit → Act → World → Prop} {K : Act → World → Prop} {c : Code} {plan : List (Option Bool × Nat)}
theorem Mem.fix {w : World} (h : Mem w own ro) (hs : own'.Sublist own) : Mem w own' ((w, notOwn own') :: ro) := (h.less hs (fun s hs => hs)).snap
/-- From here on the memory is that of w0, and what is no longer the call's own is only read. -/
theorem s_fix (own' : List (Nat × Obj)) (hs : own'.Sublist own) (h : ∀ w0, Mem w0 own ro → S K n l own' ((w0, notOwn own') :: ro)) : S K n l own ro :=
  fun a w ha hw => h w hw a w ha (hw.fix hs)
theorem w_fix (own' : List (Nat × Obj)) (hs : own'.Sublist own) (h : ∀ w0, Mem w0 own ro → W P c Q n l own' ((w0, notOwn own') :: ro)) : W P c Q n l own ro :=
  fun a w ha hw => h w hw a w ha (hw.fix hs)
end
section
variable {P : Program} {n : Nat} {l : List (Nat × Value)} {own : List (Nat × Obj)} {ro : List Snap} {lops : List Oper} {Q : Exit → Act → World → Prop} {K : Act → World → Prop}
  {rest : List (Option Bool × Nat)} {k : Option Bool} {i d : Nat} {ty : TypeId} {pos : String} {af : Array Edge}
/-- A call under a guard that holds. -/
theorem x_call_g {f : FuncId} {fn : Func} {xs : Array Operand} {tys : Array TypeId} {vs : List Value} {j dj : Nat} {want : Bool} (ho : lops[i]? = some ⟨some d, .call ⟨.value (.func f), xs, tys⟩, ty, pos, af, some (j, want)⟩) (hj : (lops[j]?).bind (·.dst) = some dj) (hb : l.lookup dj = some (.bool want)) (hk : (k == some true) = false) (hd : decide (d < n) = true)
    (hf : P.funcs[f]? = some fn) (hbody : (!(fn.name == "runtime.NumGoroutine") && fn.body.isSome) = true) (hx : evs l xs.toList = some vs) {R : Value → World → World → Prop}
    (hc : ∀ w, Mem w own ro → Calls P f vs.toArray w fun e w' => ∃ v, e = .returned v ∧ Later w w' ∧ R v w w')
    (h : ∀ v w1 w2, Mem w1 own ro → Later w1 w2 → R v w1 w2 → WX P lops.toArray Q K rest n ((d, v) :: l) own ((w2, notOwn own) :: ro)) : WX P lops.toArray Q K ((k, i) :: rest) n l own ro :=
  x_call_core (fst := #[]) (cap := #[]) ho (go_some rfl hj hb) rfl rfl hk hd rfl hf hbody hx (by simpa using hc) h
/-- A call of a function value that hands over new memory. -/
theorem x_cln {f : FuncId} {fn : Func} {xs : Array Operand} {tys : Array TypeId} {c : Operand} {vs : List Value} (ho : lops[i]? = some ⟨some d, .call ⟨.value c, xs, tys⟩, ty, pos, af, none⟩) (hk : (k == some true) = false) (hd : decide (d < n) = true)
    (hcal : ev l c = some (.func (.func f) #[] #[])) (hf : P.funcs[f]? = some fn) (hbody : (!(fn.name == "runtime.NumGoroutine") && fn.body.isSome) = true) (hx : evs l xs.toList = some vs) {R : Value → World → World → Prop}
    (hc : ∀ w, Mem w own ro → Calls P f vs.toArray w fun e w' => ∃ v, e = .returned v ∧ Later w w' ∧ R v w w')
    (h : ∀ v w1 w2, Mem w1 own ro → Later w1 w2 → R v w1 w2 → WX P lops.toArray Q K rest n ((d, v) :: l) own ((w2, notOwn own) :: ro)) : WX P lops.toArray Q K ((k, i) :: rest) n l own ro :=
  x_call_core (fst := #[]) (cap := #[]) ho (go_none rfl) rfl rfl hk hd hcal hf hbody hx (by simpa using hc) h
end
/-- The blocks that the call has made, beside its own. -/
def newD (w : World) (own : List (Nat × Obj)) : Nat → Prop := fun b => w.heap.size ≤ b ∧ notOwn own b
theorem Kept.frz {w w0 ws : World} {own own' ownh : List (Nat × Obj)} {ro : List Snap} (h : Mem w0 own ro) (hsub : own'.Sublist own) (hs : (ws, notOwn ownh) ∈ ro) : Kept (newD w ownh) (newD w own') ws w0 :=
  fun k hk hlt => ⟨⟨hk.1, fun p hp he => by
    have h1 := h.apart p (hsub.subset hp) _ hs (by rw [he]; exact hk.2)
    simp only at h1; omega⟩, h.ro_at _ hs k hk.2 hlt⟩
/-- What a call has made, at a later time: none of it is the call's own. -/
theorem Kept.made {w wa wb w0 : World} {own own1 : List (Nat × Obj)} {ro ro1 : List Snap} (h : Mem w0 own ro) (hs : (wb, notOwn own1) ∈ ro) (hm : Mem wa own1 ro1) (hw : w.heap.size ≤ wa.heap.size) : Kept (fun b => wa.heap.size ≤ b) (newD w own) wb w0 :=
  fun k hk hlt => ⟨⟨Nat.le_trans hw hk, fun p hp he => by
    have h1 := h.apart p hp _ hs (fun q hq e => by have := hm.lt hq; omega)
    simp only at h1; omega⟩, h.ro_at _ hs k (fun q hq e => by have := hm.lt hq; omega) hlt⟩
theorem Kept.new {w w1 ws : World} {own own1 : List (Nat × Obj)} {ro : List Snap} (h : Mem w1 own1 ro) (hs : (ws, notOwn own) ∈ ro) : Kept (newD w own) (fun _ => True) ws w1 :=
  fun k hk hlt => ⟨trivial, h.ro_at _ hs k hk.2 hlt⟩
theorem Kept.out {w w0 ws : World} {own ownh : List (Nat × Obj)} {ro : List Snap} (h : Mem w0 own ro) (hs : (ws, notOwn ownh) ∈ ro) : Kept (newD w ownh) (fun b => w.heap.size ≤ b) ws w0 :=
  fun k hk hlt => ⟨hk.1, h.ro_at _ hs k hk.2 hlt⟩
/-- A row's elements as data: its cells are the parts css, one for each element. -/
def RowT {α : Type} (T : Ty α) (D : Nat → Prop) (ws : World) (r : RowS) (xs : List α) : Prop :=
  ∃ css : List (List Value), css.length = xs.length ∧ rowOK T.size r xs.length css.flatten ∧ ∀ j (h1 : j < css.length) (h2 : j < xs.length), T.rd D ws css[j] xs[j]
section
variable {α : Type} {T : Ty α} {D D' : Nat → Prop} {w ws w' : World} {r r' : RowS} {xs : List α}
theorem RowT.nil : RowT T D ws none [] := ⟨[], rfl, rowOK_nil, fun j h1 => by simp at h1⟩
theorem RowT.keep (h : RowT T D ws r xs) (hk : Kept D D' ws w') : RowT T D' w' r xs := by
  obtain ⟨css, h1, h2, h3⟩ := h
  exact ⟨css, h1, h2, fun j a b => T.keep (h3 j a b) hk⟩
theorem snocT {css : List (List Value)} {cs : List Value} {x : α} (h1 : css.length = xs.length) (h3 : ∀ j (h1 : j < css.length) (h2 : j < xs.length), T.rd D ws css[j] xs[j]) (hr : rowOK T.size r' (xs.length + 1) (css.flatten ++ cs)) (hx : T.rd D ws cs x) : RowT T D ws r' (xs ++ [x]) := by
  refine ⟨css ++ [cs], by simp [h1], by simpa using hr, fun j a b => ?_⟩
  by_cases hj : j < css.length
  · rw [List.getElem_append_left hj, List.getElem_append_left (by omega)]; exact h3 j hj (by omega)
  · have hj2 : j = css.length := by simp at a; omega
    subst hj2
    rw [List.getElem_append_right (Nat.le_refl _), List.getElem_append_right (by omega)]
    simpa [h1] using hx
theorem snocN {n : Nat} {css : List (List Value)} {cs : List Value} {x : α} (hn : xs.length = n) (h1 : css.length = n) (h3 : ∀ j (h1 : j < css.length) (h2 : j < xs.length), T.rd D ws css[j] xs[j]) (hr : rowOK T.size r' (n + 1) (css.flatten ++ cs)) (hx : T.rd D ws cs x) : RowT T D ws r' (xs ++ [x]) := by
  subst hn; exact snocT h1 h3 hr hx
theorem flatten_get {m : Nat} : ∀ (css : List (List Value)) (hl : ∀ j (h : j < css.length), css[j].length = m) (j : Nat) (hj : j < css.length) (i : Nat), i < m → css.flatten[j * m + i]? = css[j][i]?
  | [], _, j, hj, _, _ => by simp at hj
  | x :: xs, hl, 0, _, i, hi => by
    have h0 : x.length = m := hl 0 (by simp)
    rw [List.flatten_cons, List.getElem?_append_left (by rw [Nat.zero_mul, Nat.zero_add, h0]; exact hi)]; simp
  | x :: xs, hl, j + 1, hj, i, hi => by
    have h0 : x.length = m := hl 0 (by simp)
    rw [List.flatten_cons, List.getElem?_append_right (by rw [h0, Nat.add_mul]; omega), h0, show (j + 1) * m + i - m = j * m + i by rw [Nat.add_mul]; omega]
    exact flatten_get xs (fun k h => hl (k + 1) (by simpa using h)) j (by simpa using hj) i hi
theorem RowT.rd {own : List (Nat × Obj)} {ro : List Snap} {e : TypeId} {v : Nat} (h : RowT T D w r xs) (hm : Mem w own ro) (hin : ∀ p ∈ rowO e r, p ∈ own) (hD : ∀ b, D b → D' b) (hb : ∀ p ∈ rowO e r, D' p.1) (hv : v = xs.length) : sliceRd T D' w (rowV r v) xs := by
  subst hv
  obtain ⟨css, h1, ⟨h2, h4⟩, h3⟩ := h
  cases r with
  | none =>
    simp only at h4
    exact ⟨none, 0, by simp [rowV, rowA, rowC], by omega, by omega, fun h => by omega⟩
  | some x =>
    obtain ⟨b, cs, c⟩ := x
    obtain ⟨h5, h6, h7, h8⟩ := h4
    simp only at h5 h6 h7 h8
    have hmem : (b, Obj.cells cs.toArray e (0, 0)) ∈ own := hin _ (by simp [rowO])
    have hbl := hm.own_at _ hmem
    refine ⟨_, c, rfl, h5, by unfold maxLen at h6; omega, fun h0 => ⟨b, 0, rfl, hb (b, Obj.cells cs.toArray e (0, 0)) (by simp [rowO]), heap_lt hbl, fun j hj => ⟨css[j], fun i hi => ?_, T.keep (h3 j (by omega) hj) (fun k hk _ => ⟨hD k hk, rfl⟩)⟩⟩⟩
    have hlen : ∀ k (hk : k < css.length), css[k].length = T.size := fun k hk => T.len (h3 k hk (by omega))
    have hi' : i < T.size := by rw [hlen] at hi; exact hi
    have h9 := flatten_get css hlen j (by omega) i hi'
    have h10 : j * T.size + i < xs.length * T.size := by
      have : (j + 1) * T.size ≤ xs.length * T.size := Nat.mul_le_mul_right _ (by omega)
      rw [Nat.add_mul] at this
      omega
    rw [Nat.zero_add, cell_of_row w b _ cs.toArray e (0, 0) hbl, List.getElem?_toArray]
    rw [← h8, List.getElem?_take_of_lt h10] at h9
    rw [h9]
    exact List.getElem?_eq_getElem hi
theorem RowT.len {v : Nat} (h : RowT T D w r xs) : xs.length ≤ maxLen := by
  obtain ⟨css, h1, ⟨h2, h4⟩, h3⟩ := h
  cases r with
  | none => simp only at h4; omega
  | some x => obtain ⟨b, cs, c⟩ := x; obtain ⟨h5, h6, _⟩ := h4; exact Nat.le_trans h5 h6
end
theorem wrap_rng (n : Int) : -9223372036854775808 ≤ IntKind.i64.wrap n ∧ IntKind.i64.wrap n ≤ 9223372036854775807 := by rw [IntKind.wrap_i64]; omega
/-- A row of the call's own that the call may hand over: its blocks are new. -/
theorem Mem.newer {w w0 : World} {own : List (Nat × Obj)} {ro : List Snap} (h : Mem w own ro) (hs : (w0, fun _ => True) ∈ ro) {p : Nat × Obj} (hp : p ∈ own) : w0.heap.size ≤ p.1 := h.apart p hp _ hs trivial
theorem Mem.notIn {w : World} {own own' l1 : List (Nat × Obj)} {ro : List Snap} (h : Mem w own ro) (hp : (l1 ++ own').Sublist own) {p : Nat × Obj} (hm : p ∈ l1) : notOwn own' p.1 := fun q hq he => by
  have hnd := (hp.map (·.1)).nodup h.own_nd
  rw [List.map_append, List.nodup_append] at hnd
  exact hnd.2.2 p.1 (List.mem_map_of_mem hm) q.1 (List.mem_map_of_mem hq) he.symm
theorem sub_mid {β : Type} (a : List β) {mid b : List β} : (a ++ b).Sublist (a ++ (mid ++ b)) := (List.Sublist.refl a).append (List.sublist_append_right mid b)
theorem Mem.notMid {w : World} {mid b : List (Nat × Obj)} {ro : List Snap} (a : List (Nat × Obj)) (h : Mem w (a ++ (mid ++ b)) ro) {p : Nat × Obj} (hp : p ∈ mid) : notOwn (a ++ b) p.1 := fun q hq he => by
  have hnd := h.own_nd
  rw [List.map_append, List.map_append, List.nodup_append, List.nodup_append] at hnd
  obtain ⟨_, ⟨_, _, h3⟩, h4⟩ := hnd
  have hpm : p.1 ∈ mid.map (·.1) := List.mem_map_of_mem hp
  rcases List.mem_append.1 hq with hq | hq
  · exact h4 q.1 (List.mem_map_of_mem hq) p.1 (List.mem_append_left _ hpm) he
  · exact h3 p.1 hpm q.1 (List.mem_map_of_mem hq) he.symm
theorem RowT.plain {α : Type} {T : Ty α} {w : World} {mid b : List (Nat × Obj)} {ro : List Snap} {e : TypeId} {r : RowS} {xs : List α} {w0 wx : World} {n : Nat} (a : List (Nat × Obj)) (h : RowT T (fun _ => False) wx r xs) (hmid : mid = rowO e r) (hm : Mem w (a ++ (mid ++ b)) ro) (hb : (w0, fun _ => True) ∈ ro) (hn : n = xs.length) : sliceRd T (newD w0 (a ++ b)) w (rowV r n) xs := by
  subst hmid
  have h' : RowT T (fun _ => False) w r xs := h.keep (fun k hk _ => hk.elim)
  exact h'.rd hm (fun p hp => List.mem_append_right _ (List.mem_append_left _ hp)) (fun _ hx => hx.elim) (fun p hp => ⟨hm.newer hb (List.mem_append_right _ (List.mem_append_left _ hp)), hm.notMid a hp⟩) hn
theorem Mem.snap0 {w s : World} {own : List (Nat × Obj)} {ro : List Snap} (h : Mem w own ro) (hs : (s, fun _ => True) ∈ ro) {D : Nat → Prop} : Mem w own ((s, D) :: ro) where
  own_at := h.own_at
  own_nd := h.own_nd
  ro_st := fun x hx => by
    rcases List.mem_cons.1 hx with rfl | hx
    · exact h.ro_st (s, fun _ => True) hs
    · exact h.ro_st x hx
  ro_at := fun x hx k hk hlt => by
    rcases List.mem_cons.1 hx with rfl | hx
    · exact h.ro_at (s, fun _ => True) hs k trivial hlt
    · exact h.ro_at x hx k hk hlt
  apart := fun p hp x hx hd => by
    rcases List.mem_cons.1 hx with rfl | hx
    · exact h.apart p hp (s, fun _ => True) hs trivial
    · exact h.apart p hp x hx hd
theorem w_state {P : Program} {c : Code} {Q : Exit → Act → World → Prop} {n : Nat} (l : List (Nat × Value)) (own : List (Nat × Obj)) (ro : List Snap) (h : W P c Q n l own ro) : W P c Q n l own ro := h
theorem tdiv3 {c : Int} (h : -9223372036854775808 ≤ c ∧ c ≤ 9223372036854775807) : -3074457345618258603 ≤ c.tdiv 3 ∧ c.tdiv 3 ≤ 3074457345618258602 := by
  rcases Int.le_total 0 c with h0 | h0
  · rw [Int.tdiv_eq_ediv_of_nonneg h0]; omega
  · have : c.tdiv 3 = -((-c).tdiv 3) := by rw [Int.neg_tdiv, Int.neg_neg]
    rw [this, Int.tdiv_eq_ediv_of_nonneg (by omega)]; omega
theorem mul9 {j m a b : Int} (h1 : 0 ≤ j ∧ j ≤ a) (h2 : 0 ≤ m ∧ m ≤ b) : 0 ≤ j * m ∧ j * m ≤ a * b :=
  ⟨Int.mul_nonneg h1.1 h2.1, Int.mul_le_mul h1.2 h2.2 h2.1 (by omega)⟩
theorem ro_next {a b : Snap} {ro : List Snap} : ∀ s ∈ a :: ro, s ∈ a :: b :: ro := fun s hs => by
  rcases List.mem_cons.1 hs with rfl | hs
  · exact .head _
  · exact .tail _ (.tail _ hs)
end Go.PK
