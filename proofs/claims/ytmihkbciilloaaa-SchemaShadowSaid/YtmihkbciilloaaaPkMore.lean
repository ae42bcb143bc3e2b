/- Of the proofs of Ytmihkbciilloaaa; see NOTES.md. -/
import Derived.Test.YtmihkbciilloaaaPkEx
namespace Go.PK
open Go Go.RowKit
set_option linter.unusedVariables false
section
variable {P : Program} {n : Nat} {l : List (Nat × Value)} {own : List (Nat × Obj)} {ro : List Snap} {lops : List Oper} {Q : Exit → Act → World → Prop} {K : Act → World → Prop}
  {rest : List (Option Bool × Nat)} {k : Option Bool} {i d : Nat} {ty t : TypeId} {pos : String} {af : Array Edge}
/-- A call whose new blocks become the caller's own: 'τ' is what is new. -/
theorem x_own {τ : Type} {f : FuncId} {fn : Func} {xs : Array Operand} {tys : Array TypeId} {vs : List Value} (V : τ → Value) (R : τ → Prop) (O : τ → List (Nat × Obj)) (ho : lops[i]? = some ⟨some d, .call ⟨.value (.func f), xs, tys⟩, ty, pos, af, none⟩) (hk : (k == some true) = false) (hd : decide (d < n) = true)
    (hf : P.funcs[f]? = some fn) (hbody : (!(fn.name == "runtime.NumGoroutine") && fn.body.isSome) = true) (hx : evs l xs.toList = some vs)
    (hc : ∀ w, Mem w own ro → Calls P f vs.toArray w fun e w' => ∃ x, e = .returned (V x) ∧ Later w w' ∧ R x ∧ Mem w' (O x) ro)
    (h : ∀ x, R x → WX P lops.toArray Q K rest n ((d, V x) :: l) (O x) ro) : WX P lops.toArray Q K ((k, i) :: rest) n l own ro := by
  intro a w ha hw
  have hd' : d < n := of_decide_eq_true hd
  have hw1 := go_none (lops := lops) (n := n) (l := l) (o := ⟨some d, .call ⟨.value (.func f), xs, tys⟩, ty, pos, af, none⟩) rfl a ha
  have hc' : ∀ w, Mem w own ro → Calls P f ((#[] : Array Value) ++ vs.toArray ++ #[]) w fun e w' => ∃ x, e = .returned (V x) ∧ Later w w' ∧ R x ∧ Mem w' (O x) ro := by simpa using hc
  simp only [wpX, List.getElem?_toArray, ho]
  cases k with
  | none =>
    intro w' hl
    rw [if_pos hw1]
    unfold Oper.wp
    rw [run_callv (fst := #[]) (cap := #[]) rfl ha rfl hf hbody hx]
    refine Calls.mono (hc' w' (hw.later hl)) fun e w2 he => ?_
    obtain ⟨x, rfl, hl2, hr, hm⟩ := he
    exact h x hr _ w2 (ha.put _ hd') hm
  | some b =>
    have : b = false := by cases b <;> simp_all
    subst this
    dsimp only
    rw [if_pos hw1]
    intro w' hl
    unfold Oper.wp
    rw [run_callv (fst := #[]) (cap := #[]) rfl ha rfl hf hbody hx]
    refine Calls.mono (hc' w' (hw.later hl)) fun e w2 he => ?_
    obtain ⟨x, rfl, hl2, hr, hm⟩ := he
    exact ⟨hl2, h x hr _ w2 (ha.put _ hd') hm⟩
/-- A slice that is written out under a guard that holds. -/
theorem x_buildSlice_g {parts : List (Nat × Operand)} {vs : List (Nat × Value)} {e : TypeId} {z : Value} {cs : List Value} {len m j dj : Nat} {want : Bool} (ho : lops[i]? = some ⟨some d, .buildSlice t len parts.toArray, ty, pos, af, some (j, want)⟩) (hj : (lops[j]?).bind (·.dst) = some dj) (hb : l.lookup dj = some (.bool want))
    (hk : (k == some true) = false) (hd : decide (d < n) = true)
    (ht : P.underlying t = some (.slice e)) (hs : (P.info? e).map (·.size) = some m) (hz : (P.info? e).bind (·.zero) = some z) (hlen : (decide (len * m ≤ 2 ^ 24) && decide (0 < len * m)) = true) (hx : evp l parts = some vs)
    (hf : fillL (fun j => some (j * m, m)) ((List.range (len * m)).map (fun i => (cellsL z)[i % (cellsL z).length]!)) vs = some cs)
    (h : ∀ b, WX P lops.toArray Q K rest n ((d, .slice (some ⟨b, 0, none⟩) len len) :: l) ((b, .cells cs.toArray e) :: own) ro) : WX P lops.toArray Q K ((k, i) :: rest) n l own ro :=
  x_new (f := fun b => .slice (some ⟨b, 0, none⟩) len len) ho (go_some rfl hj hb) rfl hk hd (fun A w ha hw => by
    have hparts : (parts.toArray.map fun (i, x) => (i, A.eval x)).toList = vs := by
      rw [Array.toList_map]; exact ha.evps hx
    simp only [Bool.and_eq_true, decide_eq_true_eq] at hlen
    have h1 : ¬ len * m > 2 ^ 24 := by omega
    have h2 : ¬ len * m = 0 := by omega
    have h3 := fill_of_L vs _ cs hf
    have h4 : ((List.range (len * m)).map (fun i => (cellsL z)[i % (cellsL z).length]!)).toArray = (Array.range (len * m)).map (z.cells[· % z.cells.size]!) := by
      apply Array.toList_inj.1
      simp only [Array.toList_map, Array.toList_range]
      refine List.map_congr_left fun j _ => ?_
      rw [cellsL_len, ← cellsL_eq]
      simp [Array.getElem!_eq_getD, Array.getD_eq_getD_getElem?]
    rw [h4] at h3
    simp only [execOp, Instr.buildSlice, Sem.run_bind, run_underlying ht, Result.andThen_ok, run_sizeOf hs, h1, h2, if_false, run_zeroValue hz, Sem.run_pure, hparts, h3, newRow]
    simp) h
end
theorem own_row_rd {α : Type} {T : Ty α} {f : α → List Value} {w : World} {own : List (Nat × Obj)} {ro : List Snap} {e : TypeId} {r : RowS} {n : Nat} {ps : List α} (hm : Mem w own ro) (hin : ∀ p ∈ rowO e r, p ∈ own) (hr : rowOK T.size r n (ps.flatMap f)) (hn : n = ps.length) (hf : ∀ x, (f x).length = T.size) (hrd : ∀ x ∈ ps, T.rd (fun _ => True) w (f x) x) :
    sliceRd T (fun _ => True) w (rowV r n) ps := by
  subst hn
  obtain ⟨h1, h2⟩ := hr
  cases r with
  | none =>
    simp only at h2
    exact ⟨none, 0, by simp [rowV, rowA, rowC], by omega, by omega, fun h => by omega⟩
  | some x =>
    obtain ⟨b, cs, c⟩ := x
    obtain ⟨h3, h4, h5, h6⟩ := h2
    exact lit_rd hf (hm.own_at _ (hin (b, Obj.cells cs.toArray e (0, 0)) (by simp [rowO]))) h6 h3 (by unfold maxLen at h4; simp only at h3 h4; omega) trivial hrd
theorem keep_new {α : Type} {T : Ty α} {wa wb w1 : World} {own own1 : List (Nat × Obj)} {ro ro1 : List Snap} {v : Value} {xs : List α} (h : sliceRd T (fun b => wa.heap.size ≤ b) wb v xs) (hw1 : Mem w1 own1 ro1) (hs : (wb, notOwn own) ∈ ro1) (hm : Mem wa own ro) : sliceRd T (fun _ => True) w1 v xs :=
  h.keep fun k hk hlt => ⟨trivial, hw1.ro_at _ hs k (fun p hp he => by have := hm.lt hp; omega) hlt⟩
theorem Mem.later_of {w w' : World} {own own' : List (Nat × Obj)} {ro ro' : List Snap} (h : Mem w own ro) (h' : Mem w' own' ((w, notOwn own) :: ro')) (hs : ∀ p ∈ own, p ∈ own') : Later w w' := by
  obtain ⟨h1, h2, h3, h4⟩ := h'.ro_st _ (.head _)
  refine ⟨h1, h2, h3, h4, fun k hk => ?_⟩
  by_cases hp : ∃ p ∈ own, p.1 = k
  · obtain ⟨p, hp, rfl⟩ := hp
    exact (h'.own_at p (hs p hp)).trans (h.own_at p hp).symm
  · exact h'.ro_at _ (.head _) k (fun p hp' he => hp ⟨p, hp', he⟩) hk
end Go.PK
