/- Of the proofs of Ytmihkbciilloaaa; see NOTES.md. -/
import Derived.Test.YtmihkbciilloaaaPkCtl
import Derived.Maps.Keyed
namespace Go.PK
open Go Go.RowKit Go.Maps
set_option linter.unusedVariables false
set_option linter.unusedSimpArgs false

/-- A map's entries say f. -/
structure MapF (P : Program) (kt : TypeId) (es : Array MapEntry) (f : Value → Option Value) : Prop where
  key : ∀ (i : Nat) (e : MapEntry), es[i]? = some e → ∃ kl, keyOf P kt e.key = some kl
  val : ∀ (i : Nat) (e : MapEntry), es[i]? = some e → f e.key = some e.val
  has : ∀ x v, f x = some v → ∃ (i : Nat) (e : MapEntry), es[i]? = some e ∧ e.key = x ∧ e.val = v
  one : ∀ (i j : Nat) (e e' : MapEntry), es[i]? = some e → es[j]? = some e' → e.key = e'.key → i = j
noncomputable def fupd (f : Value → Option Value) (x v : Value) : Value → Option Value := open Classical in fun y => if y = x then some v else f y
theorem fupd_self {f : Value → Option Value} {x v : Value} : fupd f x v x = some v := if_pos rfl
theorem fupd_ne {f : Value → Option Value} {x v y : Value} (h : y ≠ x) : fupd f x v y = f y := if_neg h
theorem MapF.empty {P : Program} {kt : TypeId} : MapF P kt #[] (fun _ => none) := ⟨by simp, by simp, by simp, by simp⟩

section
variable {P : Program} {kt : TypeId} {es : Array MapEntry} {f : Value → Option Value}
theorem MapF.find (h : MapF P kt es f) (K : Keyed P kt) {x : Value} {lx : Lit} (hx : keyOf P kt x = some lx) (w : World) :
    ((Instr.findKey kt x es.toList).run P w = .ok none w ∧ f x = none) ∨ ∃ (j : Nat) (e : MapEntry), (Instr.findKey kt x es.toList).run P w = .ok (some (j, e.val)) w ∧ es[j]? = some e ∧ e.key = x ∧ f x = some e.val := by
  rcases K.find w hx es.toList (fun e he => by
    obtain ⟨i, hi⟩ := List.getElem?_of_mem he
    exact h.key i e (by simpa using hi)) with ⟨h1, h2⟩ | ⟨j, e, h1, h2, h3⟩
  · refine .inl ⟨h1, ?_⟩
    cases hf : f x with
    | none => rfl
    | some v =>
      obtain ⟨i, e, h3, h4, _⟩ := h.has x v hf
      exact absurd h4 (h2 e (by rw [← Array.getElem?_toList] at h3; exact List.mem_of_getElem? h3))
  · have h2' : es[j]? = some e := by simpa using h2
    exact .inr ⟨j, e, h1, h2', h3, h3 ▸ h.val j e h2'⟩
theorem MapF.push (h : MapF P kt es f) {x v : Value} {lx : Lit} {born : Nat} (hx : keyOf P kt x = some lx) (hf : f x = none) : MapF P kt (es.push ⟨x, v, born⟩) (fupd f x v) := by
  have old : ∀ (i : Nat) (e : MapEntry), es[i]? = some e → e.key ≠ x := fun i e he hk => by
    have := h.val i e he
    rw [hk, hf] at this
    cases this
  have cases' : ∀ (i : Nat) (e : MapEntry), (es.push ⟨x, v, born⟩)[i]? = some e → (es[i]? = some e ∧ i < es.size) ∨ (i = es.size ∧ e = ⟨x, v, born⟩) := fun i e he => by
    rw [Array.getElem?_push] at he
    split at he
    · cases he; exact .inr ⟨‹_›, rfl⟩
    · refine .inl ⟨he, ?_⟩
      exact (Array.getElem?_eq_some_iff.1 he).1
  refine ⟨fun i e he => ?_, fun i e he => ?_, fun y u hy => ?_, fun i j e e' he he' hk => ?_⟩
  · rcases cases' i e he with ⟨h1, _⟩ | ⟨_, rfl⟩
    · exact h.key i e h1
    · exact ⟨_, hx⟩
  · rcases cases' i e he with ⟨h1, _⟩ | ⟨_, rfl⟩
    · rw [fupd_ne (old i e h1)]; exact h.val i e h1
    · exact fupd_self
  · by_cases hyx : y = x
    · subst hyx
      rw [fupd_self] at hy
      cases hy
      exact ⟨es.size, _, by rw [Array.getElem?_push, if_pos rfl], rfl, rfl⟩
    · rw [fupd_ne hyx] at hy
      obtain ⟨i, e, h1, h2, h3⟩ := h.has y u hy
      have hi := (Array.getElem?_eq_some_iff.1 h1).1
      exact ⟨i, e, by rw [Array.getElem?_push, if_neg (by omega)]; exact h1, h2, h3⟩
  · rcases cases' i e he with ⟨h1, _⟩ | ⟨hi, rfl⟩ <;> rcases cases' j e' he' with ⟨h2, _⟩ | ⟨hj, rfl⟩
    · exact h.one i j e e' h1 h2 hk
    · exact absurd hk (old i e h1)
    · exact absurd hk.symm (old j e' h2)
    · omega
theorem MapF.put (h : MapF P kt es f) {x v : Value} {lx : Lit} {j : Nat} {e0 : MapEntry} (hx : keyOf P kt x = some lx) (h0 : es[j]? = some e0) (hk0 : e0.key = x) :
    MapF P kt (es.modify j fun e => { e with key := x, val := v }) (fupd f x v) := by
  have cases' : ∀ (i : Nat) (e : MapEntry), (es.modify j fun e => { e with key := x, val := v })[i]? = some e → (es[i]? = some e ∧ i ≠ j) ∨ (i = j ∧ e.key = x ∧ e.val = v) := fun i e he => by
    rw [Array.getElem?_modify] at he
    split at he
    · subst_vars
      rw [h0] at he
      cases he
      exact .inr ⟨rfl, rfl, rfl⟩
    · exact .inl ⟨he, fun e => by simp_all⟩
  have old : ∀ (i : Nat) (e : MapEntry), es[i]? = some e → i ≠ j → e.key ≠ x := fun i e he hne hk => hne (h.one i j e e0 he h0 (hk.trans hk0.symm))
  refine ⟨fun i e he => ?_, fun i e he => ?_, fun y u hy => ?_, fun i j' e e' he he' hk => ?_⟩
  · rcases cases' i e he with ⟨h1, _⟩ | ⟨_, h2, _⟩
    · exact h.key i e h1
    · exact ⟨_, h2 ▸ hx⟩
  · rcases cases' i e he with ⟨h1, h2⟩ | ⟨_, h2, h3⟩
    · rw [fupd_ne (old i e h1 h2)]; exact h.val i e h1
    · rw [h2, h3]; exact fupd_self
  · by_cases hyx : y = x
    · subst hyx
      rw [fupd_self] at hy
      cases hy
      exact ⟨j, { e0 with key := y, val := v }, by rw [Array.getElem?_modify, if_pos rfl, h0]; rfl, rfl, rfl⟩
    · rw [fupd_ne hyx] at hy
      obtain ⟨i, e, h1, h2, h3⟩ := h.has y u hy
      have hne : j ≠ i := fun e1 => by subst e1; rw [h0] at h1; cases h1; exact hyx (h2.symm.trans hk0)
      exact ⟨i, e, by rw [Array.getElem?_modify, if_neg hne]; exact h1, h2, h3⟩
  · rcases cases' i e he with ⟨h1, h2⟩ | ⟨hi, h2, _⟩ <;> rcases cases' j' e' he' with ⟨h3, h4⟩ | ⟨hj, h4, _⟩
    · exact h.one i j' e e' h1 h3 hk
    · exact absurd (hk.trans h4) (old i e h1 h2)
    · exact absurd (hk.symm.trans h2) (old j' e' h3 h4)
    · omega
end

theorem turned_obj {w : World} {g : Nat} {o o' : Obj} (h : w.heap[g]? = some o) : Turned w { w with heap := w.heap.setIfInBounds g o' } g o' where
  os := rfl
  tape := rfl
  output := rfl
  size := by simp
  at_ := by
    show (w.heap.setIfInBounds g o')[g]? = some o'
    rw [Array.getElem?_setIfInBounds_self_of_lt (heap_lt h)]
  other := fun k hk => by
    show (w.heap.setIfInBounds g o')[k]? = w.heap[k]?
    rw [Array.getElem?_setIfInBounds_ne (fun e => hk e.symm)]

section
variable {P : Program} {n : Nat} {l : List (Nat × Value)} {own : List (Nat × Obj)} {ro : List Snap} {lops : List Oper} {Q : Exit → Act → World → Prop} {K : Act → World → Prop}
  {rest : List (Option Bool × Nat)} {k : Option Bool} {i d : Nat} {op : Op} {ty : TypeId} {pos : String} {af : Array Edge} {x y m : Operand} {t kt e : TypeId} {b : Nat} {es : Array MapEntry} {clock : Nat} {f : Value → Option Value}
theorem x_makeMap (ho : lops[i]? = some ⟨some d, .makeMap t none, ty, pos, af, none⟩) (hk : (k == some true) = false) (hd : decide (d < n) = true)
    (h : ∀ b, WX P lops.toArray Q K rest n ((d, .map (some b)) :: l) ((b, .map #[] 0) :: own) ro) : WX P lops.toArray Q K ((k, i) :: rest) n l own ro :=
  x_new (f := fun b => .map (some b)) ho (go_none rfl) rfl hk hd (fun a w ha hw => by simp [execOp, Instr.makeMap]) h
theorem v_lookup {u v z : Value} {lx : Lit} (ht : P.underlying t = some (.map kt e)) (KK : Keyed P kt) (hz : (P.info? e).bind (·.zero) = some z) (hm : ev l m = some (.map (some b))) (hx : ev l x = some u) (hkey : keyOf P kt u = some lx)
    (hb : (b, Obj.map es clock) ∈ own) (hf : MapF P kt es f) (hv : (f u).getD z = v) : OpV P n l own ro (.lookup t m x false) ty v := by
  intro A w o ha hw ho _
  have hg := hw.own_at _ hb
  subst hv
  rcases hf.find KK hkey w with ⟨h1, h2⟩ | ⟨j, e, h1, h2, h3, h4⟩
  · simp [execOp, ho, ha.eval hm, ha.eval hx, Instr.lookup, run_underlying ht, MapKept.run_getObj_map hg, KK.check w _ hkey, h1, run_zeroValue hz, h2, Result.andThen]
  · simp [execOp, ho, ha.eval hm, ha.eval hx, Instr.lookup, run_underlying ht, MapKept.run_getObj_map hg, KK.check w _ hkey, h1, h4, Result.andThen]
theorem x_mapUpdate {u v : Value} {lx : Lit} (l1 : List (Nat × Obj)) {l2 : List (Nat × Obj)} (ho : lops[i]? = some ⟨none, .mapUpdate t m x y, ty, pos, af, none⟩) (hm : ev l m = some (.map (some b))) (hx : ev l x = some u) (hy : ev l y = some v)
    (ht : P.underlying t = some (.map kt e)) (KK : Keyed P kt) (hkey : keyOf P kt u = some lx) (hown : own = l1 ++ (b, .map es clock) :: l2) (hf : MapF P kt es f)
    (h : ∀ es' clock', MapF P kt es' (fupd f u v) → WX P lops.toArray Q K rest n l (l1 ++ (b, .map es' clock') :: l2) ro) : WX P lops.toArray Q K ((none, i) :: rest) n l own ro := by
  subst hown
  intro a w ha hw
  have hw1 := go_none (lops := lops) (n := n) (l := l) (o := ⟨none, .mapUpdate t m x y, ty, pos, af, none⟩) rfl a ha
  simp only [wpX, List.getElem?_toArray, ho]
  intro w' hl
  rw [if_pos hw1]
  have hM := hw.later hl
  have hg : w'.heap[b]? = some (.map es clock) := hM.own_at (b, _) (by simp)
  have hrun : ∃ es' clock', MapF P kt es' (fupd f u v) ∧ (Instr.mapUpdate t (.map (some b)) u v).run P w' = .ok () { w' with heap := w'.heap.setIfInBounds b (.map es' clock') } := by
    rcases hf.find KK hkey w' with ⟨h1, h2⟩ | ⟨j, e0, h1, h2, h3, h4⟩
    · exact ⟨_, clock + 1, hf.push (v := v) (born := clock) hkey h2, by simp [Instr.mapUpdate, run_underlying ht, MapKept.run_getObj_map hg, KK.check w' false hkey, h1, MapKept.run_setObj_map _ hg, Result.andThen]⟩
    · refine ⟨_, clock, hf.put (v := v) hkey h2 h3, ?_⟩
      have hs : (Instr.keyThatStays (((es[j]?).map (·.key)).getD u) u).run P w' = .ok u w' := by
        rw [h2]; simp only [Option.map_some, Option.getD_some, h3]; exact KK.stays w' hkey
      simp only [Instr.mapUpdate, Sem.run_bind, run_underlying ht, Result.andThen_ok, MapKept.run_getObj_map hg, KK.check w' false hkey, h1, hs, MapKept.run_setObj_map _ hg]
  obtain ⟨es', clock', hf', hr⟩ := hrun
  unfold Oper.wp
  have hr2 : (execOp a.eval ⟨none, .mapUpdate t m x y, ty, pos, af, none⟩).run P w' = .ok .skip { w' with heap := w'.heap.setIfInBounds b (.map es' clock') } := by
    simp only [execOp, ha.eval hm, ha.eval hx, ha.eval hy, Sem.run_bind, hr, Result.andThen_ok, Sem.run_pure]
  rw [hr2]
  show wpX P lops.toArray Q K rest (a.put none undef) _
  exact h es' clock' hf' a _ ha (hM.turn (turned_obj hg))
end
/-- A function is entered with the caller's own blocks (those that it turns). -/
theorem enter_in {P : Program} {n : Nat} {own : List (Nat × Obj)} {ro : List Snap} {fn : Func} {R : Ending → World → Prop} {f : FuncId} {c : Code} {vs : List Value} {w : World} (hm : Mem w own ro) (hf : P.funcs[f]? = some fn) (hb : fn.body = some c) (hn : fn.ntmps = n) (hv : decide (vs.length ≤ n) = true)
    (h : W P c (bodyPost P fn R) n (slots 0 vs) own ro) : Calls P f vs.toArray w R := by
  have hv' := of_decide_eq_true hv
  refine calls_of_wp hf hb (h _ w ⟨by simp [hn]; omega, rfl, fun s v hs => ?_⟩ hm)
  obtain ⟨_, h2⟩ := slots_lookup _ _ _ _ hs
  simp only [Nat.sub_zero] at h2
  have hlt : s < vs.length := (List.getElem?_eq_some_iff.1 h2).1
  show (vs.toArray ++ _)[s]? = some v
  rw [Array.getElem?_append_left (by simpa using hlt)]
  simpa using h2
section
variable {P : Program} {n : Nat} {l : List (Nat × Value)} {own : List (Nat × Obj)} {ro : List Snap} {lops : List Oper} {Q : Exit → Act → World → Prop} {K : Act → World → Prop}
  {rest : List (Option Bool × Nat)} {k : Option Bool} {i d : Nat} {ty : TypeId} {pos : String} {af : Array Edge}
/-- A call of a function value that turns the caller's own blocks: 'τ' is what is new. -/
theorem x_turn {τ : Type} {f : FuncId} {fn : Func} {xs : Array Operand} {tys : Array TypeId} {c : Operand} {vs : List Value} {fst cap : Array Value} {v : Value} (R : τ → Prop) (O : τ → List (Nat × Obj)) (ho : lops[i]? = some ⟨some d, .call ⟨.value c, xs, tys⟩, ty, pos, af, none⟩) (hd : decide (d < n) = true)
    (hcal : ev l c = some (.func (.func f) fst cap)) (hf : P.funcs[f]? = some fn) (hbody : (!(fn.name == "runtime.NumGoroutine") && fn.body.isSome) = true) (hx : evs l xs.toList = some vs)
    (hc : ∀ w, Mem w own ro → Calls P f (fst ++ vs.toArray ++ cap) w fun e w' => e = .returned v ∧ ∃ x, R x ∧ Mem w' (O x) ro)
    (h : ∀ x, R x → WX P lops.toArray Q K rest n ((d, v) :: l) (O x) ro) : WX P lops.toArray Q K ((none, i) :: rest) n l own ro := by
  intro a w ha hw
  have hd' : d < n := of_decide_eq_true hd
  have hw1 := go_none (lops := lops) (n := n) (l := l) (o := ⟨some d, .call ⟨.value c, xs, tys⟩, ty, pos, af, none⟩) rfl a ha
  simp only [wpX, List.getElem?_toArray, ho]
  intro w' hl
  rw [if_pos hw1]
  unfold Oper.wp
  rw [run_callv rfl ha hcal hf hbody hx]
  refine Calls.mono (hc w' (hw.later hl)) fun e w2 he => ?_
  obtain ⟨rfl, x, hr, hm⟩ := he
  exact h x hr _ w2 (ha.put v hd') hm
end
end Go.PK
