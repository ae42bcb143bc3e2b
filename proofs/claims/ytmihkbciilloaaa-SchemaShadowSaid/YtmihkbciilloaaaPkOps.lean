/- Of the proofs of Ytmihkbciilloaaa; see NOTES.md. -/
import Derived.Test.YtmihkbciilloaaaPkEng
namespace Go.PK
open Go Go.RowKit
set_option linter.unusedVariables false

section
variable {P : Program} {n : Nat} {l : List (Nat × Value)} {own : List (Nat × Obj)} {ro : List Snap} {lops : List Oper} {Q : Exit → Act → World → Prop} {K : Act → World → Prop}
  {rest : List (Option Bool × Nat)} {k : Option Bool} {i d : Nat} {op : Op} {ty : TypeId} {pos : String} {af : Array Edge}

/-- The operation yields v in every world of the state. -/
def OpV (P : Program) (n : Nat) (l : List (Nat × Value)) (own : List (Nat × Obj)) (ro : List Snap) (op : Op) (ty : TypeId) (v : Value) : Prop :=
  ∀ a w (o : Oper), FH n l a → Mem w own ro → o.op = op → o.type = ty → (execOp a.eval o).run P w = .ok (.value v) w

/-- The walk is at its end. -/
theorem x_end (h : S K n l own ro) : WX P lops.toArray Q K [] n l own ro := fun a w ha hw w' hl => h a w' ha (hw.later hl)

/-- The operation is carried out in every state. -/
def Go_ (lops : List Oper) (n : Nat) (l : List (Nat × Value)) (o : Oper) : Prop := ∀ a, FH n l a → Region.wanted o (yielded lops.toArray a.tmps) = true
def No_ (lops : List Oper) (n : Nat) (l : List (Nat × Value)) (o : Oper) : Prop := ∀ a, FH n l a → Region.wanted o (yielded lops.toArray a.tmps) = false
theorem go_none {o : Oper} (h : o.guard = none) : Go_ lops n l o := fun _ _ => by simp [Region.wanted, h]
theorem wanted_some {o : Oper} {a : Act} {j dj : Nat} {want b : Bool} (hg : o.guard = some (j, want)) (hj : (lops[j]?).bind (·.dst) = some dj) (ha : FH n l a) (hb : l.lookup dj = some (.bool b)) :
    Region.wanted o (yielded lops.toArray a.tmps) = (b == want) := by
  simp only [Region.wanted, hg, yielded, List.getElem?_toArray, hj, Option.bind_some, ha.at_ _ _ hb]
  cases b <;> cases want <;> rfl
theorem go_some {o : Oper} {j dj : Nat} {want : Bool} (hg : o.guard = some (j, want)) (hj : (lops[j]?).bind (·.dst) = some dj) (hb : l.lookup dj = some (.bool want)) : Go_ lops n l o :=
  fun a ha => by rw [wanted_some hg hj ha hb]; simp
theorem no_some {o : Oper} {j dj : Nat} {want b : Bool} (hg : o.guard = some (j, want)) (hj : (lops[j]?).bind (·.dst) = some dj) (hb : l.lookup dj = some (.bool b)) (hne : (b == want) = false) : No_ lops n l o :=
  fun a ha => by rw [wanted_some hg hj ha hb, hne]

theorem x_run {o : Oper} (ho : lops[i]? = some o) (hgo : Go_ lops n l o) (hd0 : o.dst = some d) (hk : k.getD true = true) (hd : decide (d < n) = true) {v : Value} (hv : OpV P n l own ro o.op o.type v)
    (h : WX P lops.toArray Q K rest n ((d, v) :: l) own ro) : WX P lops.toArray Q K ((k, i) :: rest) n l own ro := by
  intro a w ha hw
  have hd' : d < n := of_decide_eq_true hd
  have hw1 := hgo a ha
  simp only [wpX, List.getElem?_toArray, ho]
  cases k with
  | none =>
    intro w' hl
    rw [if_pos hw1]
    unfold Oper.wp
    rw [hv a w' _ ha (hw.later hl) rfl rfl]
    show wpX P lops.toArray Q K rest (a.put o.dst v) w'
    rw [hd0]
    exact h _ w' (ha.put v hd') (hw.later hl)
  | some b =>
    simp at hk
    subst hk
    dsimp only
    rw [if_pos hw1]
    refine ⟨v, fun w' hl => ?_, by rw [hd0]; exact h _ w (ha.put v hd') hw⟩
    unfold fltAt
    rw [hv a w' _ ha (hw.later hl) rfl rfl]
    exact ⟨rfl, rfl⟩
theorem x_pass {o : Oper} (ho : lops[i]? = some o) (hno : No_ lops n l o) (hd0 : o.dst = some d) (hd : decide (d < n) = true)
    (h : WX P lops.toArray Q K rest n ((d, undef) :: l) own ro) : WX P lops.toArray Q K ((k, i) :: rest) n l own ro := by
  intro a w ha hw
  have hd' : d < n := of_decide_eq_true hd
  have hw1 : ¬ Region.wanted o (yielded lops.toArray a.tmps) = true := by rw [hno a ha]; simp
  simp only [wpX, List.getElem?_toArray, ho]
  cases k with
  | none => intro w' hl; rw [if_neg hw1, hd0]; exact h _ w' (ha.put undef hd') (hw.later hl)
  | some b => dsimp only; rw [if_neg hw1, hd0]; exact h _ w (ha.put undef hd') hw

/-- An operation without a guard. -/
theorem x_val (ho : lops[i]? = some ⟨some d, op, ty, pos, af, none⟩) (hk : k.getD true = true) (hd : decide (d < n) = true) {v : Value} (hv : OpV P n l own ro op ty v)
    (h : WX P lops.toArray Q K rest n ((d, v) :: l) own ro) : WX P lops.toArray Q K ((k, i) :: rest) n l own ro :=
  x_run ho (go_none rfl) rfl hk hd hv h
/-- .. a bool gets a name. -/
theorem x_bool (ho : lops[i]? = some ⟨some d, op, ty, pos, af, none⟩) (hk : k.getD true = true) (hd : decide (d < n) = true) {b : Bool} (hv : OpV P n l own ro op ty (.bool b))
    (h : ∀ c, c = b → WX P lops.toArray Q K rest n ((d, .bool c) :: l) own ro) : WX P lops.toArray Q K ((k, i) :: rest) n l own ro :=
  x_val ho hk hd hv (h b rfl)
/-- A guard that is decided: carried out. -/
theorem x_go {j dj : Nat} {want : Bool} (ho : lops[i]? = some ⟨some d, op, ty, pos, af, some (j, want)⟩) (hj : (lops[j]?).bind (·.dst) = some dj) (hb : l.lookup dj = some (.bool want)) (hk : k.getD true = true) (hd : decide (d < n) = true) {v : Value} (hv : OpV P n l own ro op ty v)
    (h : WX P lops.toArray Q K rest n ((d, v) :: l) own ro) : WX P lops.toArray Q K ((k, i) :: rest) n l own ro :=
  x_run ho (go_some rfl hj hb) rfl hk hd hv h
/-- A guard that is decided: passed over. -/
theorem x_no {j dj : Nat} {want b : Bool} (ho : lops[i]? = some ⟨some d, op, ty, pos, af, some (j, want)⟩) (hj : (lops[j]?).bind (·.dst) = some dj) (hb : l.lookup dj = some (.bool b)) (hne : (b == want) = false) (hd : decide (d < n) = true)
    (h : WX P lops.toArray Q K rest n ((d, undef) :: l) own ro) : WX P lops.toArray Q K ((k, i) :: rest) n l own ro :=
  x_pass ho (no_some rfl hj hb hne) rfl hd h
/-- What a guarded operation leaves: the guards, outermost first. -/
def gvl : List (Bool × Bool) → Value → Value
  | [], v => v
  | (b, w) :: gs, v => if b = w then gvl gs v else undef
def allg : List (Bool × Bool) → Prop
  | [] => True
  | (b, w) :: gs => b = w ∧ allg gs
theorem gvl_nil (v : Value) : gvl [] v = v := rfl
theorem gvl_t (gs : List (Bool × Bool)) (v : Value) : gvl ((true, true) :: gs) v = gvl gs v := rfl
theorem gvl_f (gs : List (Bool × Bool)) (v : Value) : gvl ((false, false) :: gs) v = gvl gs v := rfl
theorem gvl_yes : ∀ {gs : List (Bool × Bool)} {v : Value}, allg gs → gvl gs v = v
  | [], _, _ => rfl
  | (b, w) :: gs, v, h => by simp only [gvl, h.1, if_true]; exact gvl_yes h.2
theorem gvl_no : ∀ {gs : List (Bool × Bool)} {v : Value}, ¬ allg gs → gvl gs v = undef
  | [], _, h => absurd trivial h
  | (b, w) :: gs, v, h => by
    simp only [gvl]
    split
    · rename_i hb; exact gvl_no fun hg => h ⟨hb, hg⟩
    · rfl
theorem allg_snoc : ∀ {gs : List (Bool × Bool)} {b w : Bool}, allg (gs ++ [(b, w)]) ↔ allg gs ∧ b = w
  | [], b, w => by simp [allg]
  | (c, x) :: gs, b, w => by simp only [List.cons_append, allg, allg_snoc, and_assoc]
/-- A guard of guards: carried out or not. -/
theorem go_gs {o : Oper} {j dj : Nat} {want b : Bool} {gs : List (Bool × Bool)} (hg : o.guard = some (j, want)) (hj : (lops[j]?).bind (·.dst) = some dj) (hb : l.lookup dj = some (gvl gs (.bool b))) (h : allg gs) (hw : b = want) : Go_ lops n l o :=
  fun a ha => by rw [gvl_yes h] at hb; subst hw; exact go_some hg hj hb a ha
theorem no_gs {o : Oper} {j dj : Nat} {want b : Bool} {gs : List (Bool × Bool)} (hg : o.guard = some (j, want)) (hj : (lops[j]?).bind (·.dst) = some dj) (hb : l.lookup dj = some (gvl gs (.bool b))) (h : ¬ (allg gs ∧ b = want)) : No_ lops n l o := by
  by_cases hgs : allg gs
  · rw [gvl_yes hgs] at hb
    exact no_some hg hj hb (by simpa using fun e => h ⟨hgs, e⟩)
  · rw [gvl_no hgs] at hb
    intro a ha
    simp only [Region.wanted, hg, yielded, List.getElem?_toArray, hj, Option.bind_some, ha.at_ _ _ hb, undef]
    cases want <;> rfl
/-- A guarded operation. -/
theorem x_if {j dj : Nat} {want b : Bool} (gs : List (Bool × Bool)) (ho : lops[i]? = some ⟨some d, op, ty, pos, af, some (j, want)⟩) (hj : (lops[j]?).bind (·.dst) = some dj) (hb : l.lookup dj = some (gvl gs (.bool b))) (hk : k.getD true = true) (hd : decide (d < n) = true) {v : Value}
    (hv : allg (gs ++ [(b, want)]) → OpV P n l own ro op ty v)
    (h : WX P lops.toArray Q K rest n ((d, gvl (gs ++ [(b, want)]) v) :: l) own ro) : WX P lops.toArray Q K ((k, i) :: rest) n l own ro := by
  by_cases hg : allg (gs ++ [(b, want)])
  · obtain ⟨h1, h2⟩ := allg_snoc.1 hg
    refine x_run ho (go_gs rfl hj hb h1 h2) rfl hk hd (hv hg) ?_
    rwa [gvl_yes hg] at h
  · refine x_pass ho (no_gs rfl hj hb fun h => hg (allg_snoc.2 h)) rfl hd ?_
    rwa [gvl_no hg] at h
/-- .. a bool gets a name. -/
theorem x_ifb {j dj : Nat} {want b c : Bool} (gs : List (Bool × Bool)) (ho : lops[i]? = some ⟨some d, op, ty, pos, af, some (j, want)⟩) (hj : (lops[j]?).bind (·.dst) = some dj) (hb : l.lookup dj = some (gvl gs (.bool b))) (hk : k.getD true = true) (hd : decide (d < n) = true)
    (hv : allg (gs ++ [(b, want)]) → OpV P n l own ro op ty (.bool c))
    (h : ∀ c', c' = c → WX P lops.toArray Q K rest n ((d, gvl (gs ++ [(b, want)]) (.bool c')) :: l) own ro) : WX P lops.toArray Q K ((k, i) :: rest) n l own ro :=
  x_if gs ho hj hb hk hd hv (h c rfl)

theorem run_enter {f : FuncId} {fn : Func} (hf : P.funcs[f]? = some fn) (hbody : (!(fn.name == "runtime.NumGoroutine") && fn.body.isSome) = true) (args : Array Value) (w : World) :
    (callFunc f args).run P w = .ok (.enter f args) w := by
  simp only [Bool.and_eq_true, Bool.not_eq_true'] at hbody
  obtain ⟨h1, h2⟩ := hbody
  have h1' : ¬ fn.name = "runtime.NumGoroutine" := by simpa using h1
  have h3 : ¬ fn.body = none := by intro h; simp [h] at h2
  simp [callFunc, hf, h1', h3]

theorem run_callv {a : Act} {o : Oper} {w : World} {f : FuncId} {fn : Func} {xs : Array Operand} {tys : Array TypeId} {c : Operand} {vs : List Value} {cap : Array Value} {fst : Array Value}
    (ho : o.op = .call ⟨.value c, xs, tys⟩) (ha : FH n l a) (hcal : ev l c = some (.func (.func f) fst cap)) (hf : P.funcs[f]? = some fn) (hbody : (!(fn.name == "runtime.NumGoroutine") && fn.body.isSome) = true) (hx : evs l xs.toList = some vs) :
    (execOp a.eval o).run P w = .ok (.enter f (fst ++ vs.toArray ++ cap)) w := by
  have hargs : xs.map a.eval = vs.toArray := by
    have := ha.evals hx
    rw [← this, ← Array.toList_map]
  simp [execOp, ho, resolve, hargs, ha.eval hcal, Deferred.ofValue, invoke, run_enter hf hbody, Array.append_assoc]

/-- A call that leaves a later world and whose result is known. -/
theorem x_callv_core {o : Oper} {f : FuncId} {fn : Func} {xs : Array Operand} {tys : Array TypeId} {c : Operand} {vs : List Value} {fst cap : Array Value} (ho : lops[i]? = some o) (hgo : Go_ lops n l o) (hop : o.op = .call ⟨.value c, xs, tys⟩) (hd0 : o.dst = some d) (hk : k.getD true = true) (hd : decide (d < n) = true)
    (hcal : ev l c = some (.func (.func f) fst cap)) (hf : P.funcs[f]? = some fn) (hbody : (!(fn.name == "runtime.NumGoroutine") && fn.body.isSome) = true) (hx : evs l xs.toList = some vs) {v : Value}
    (hc : ∀ w, Mem w own ro → Calls P f (fst ++ vs.toArray ++ cap) w fun e w' => e = .returned v ∧ Later w w')
    (h : WX P lops.toArray Q K rest n ((d, v) :: l) own ro) : WX P lops.toArray Q K ((k, i) :: rest) n l own ro := by
  intro a w ha hw
  have hd' : d < n := of_decide_eq_true hd
  have hw1 := hgo a ha
  simp only [wpX, List.getElem?_toArray, ho]
  cases k with
  | none =>
    intro w' hl
    rw [if_pos hw1]
    unfold Oper.wp
    rw [run_callv hop ha hcal hf hbody hx]
    refine Calls.mono (hc w' (hw.later hl)) fun e w2 he => ?_
    obtain ⟨rfl, hl2⟩ := he
    show wpX P lops.toArray Q K rest (a.put o.dst v) w2
    rw [hd0]
    exact h _ w2 (ha.put v hd') ((hw.later hl).later hl2)
  | some b =>
    simp at hk
    subst hk
    dsimp only
    rw [if_pos hw1]
    refine ⟨v, fun w' hl => ?_, by rw [hd0]; exact h _ w (ha.put v hd') hw⟩
    unfold fltAt
    rw [run_callv hop ha hcal hf hbody hx]
    exact ⟨rfl, hc w' (hw.later hl)⟩
theorem x_callv {f : FuncId} {fn : Func} {xs : Array Operand} {tys : Array TypeId} {vs : List Value} (ho : lops[i]? = some ⟨some d, .call ⟨.value (.func f), xs, tys⟩, ty, pos, af, none⟩) (hk : k.getD true = true) (hd : decide (d < n) = true)
    (hf : P.funcs[f]? = some fn) (hbody : (!(fn.name == "runtime.NumGoroutine") && fn.body.isSome) = true) (hx : evs l xs.toList = some vs) {v : Value}
    (hc : ∀ w, Mem w own ro → Calls P f vs.toArray w fun e w' => e = .returned v ∧ Later w w')
    (h : WX P lops.toArray Q K rest n ((d, v) :: l) own ro) : WX P lops.toArray Q K ((k, i) :: rest) n l own ro :=
  x_callv_core (fst := #[]) (cap := #[]) ho (go_none rfl) rfl rfl hk hd rfl hf hbody hx (by simpa using hc) h
/-- .. a bool: it gets a name. -/
theorem x_callb {f : FuncId} {fn : Func} {xs : Array Operand} {tys : Array TypeId} {vs : List Value} (ho : lops[i]? = some ⟨some d, .call ⟨.value (.func f), xs, tys⟩, ty, pos, af, none⟩) (hk : k.getD true = true) (hd : decide (d < n) = true)
    (hf : P.funcs[f]? = some fn) (hbody : (!(fn.name == "runtime.NumGoroutine") && fn.body.isSome) = true) (hx : evs l xs.toList = some vs) {b : Bool}
    (hc : ∀ w, Mem w own ro → Calls P f vs.toArray w fun e w' => e = .returned (.bool b) ∧ Later w w')
    (h : ∀ c, c = b → WX P lops.toArray Q K rest n ((d, .bool c) :: l) own ro) : WX P lops.toArray Q K ((k, i) :: rest) n l own ro :=
  x_callv ho hk hd hf hbody hx hc (h b rfl)
/-- A guarded call whose result is known where the guard holds. -/
theorem x_call_if {j dj : Nat} {want b : Bool} (gs : List (Bool × Bool)) {f : FuncId} {fn : Func} {xs : Array Operand} {tys : Array TypeId} (ho : lops[i]? = some ⟨some d, .call ⟨.value (.func f), xs, tys⟩, ty, pos, af, some (j, want)⟩) (hj : (lops[j]?).bind (·.dst) = some dj) (hb : l.lookup dj = some (gvl gs (.bool b))) (hk : k.getD true = true) (hd : decide (d < n) = true)
    (hf : P.funcs[f]? = some fn) (hbody : (!(fn.name == "runtime.NumGoroutine") && fn.body.isSome) = true) {v : Value}
    (hc : allg (gs ++ [(b, want)]) → ∃ vs, evs l xs.toList = some vs ∧ ∀ w, Mem w own ro → Calls P f vs.toArray w fun e w' => e = .returned v ∧ Later w w')
    (h : WX P lops.toArray Q K rest n ((d, gvl (gs ++ [(b, want)]) v) :: l) own ro) : WX P lops.toArray Q K ((k, i) :: rest) n l own ro := by
  by_cases hg : allg (gs ++ [(b, want)])
  · obtain ⟨h1, h2⟩ := allg_snoc.1 hg
    obtain ⟨vs, hx, hc⟩ := hc hg
    refine x_callv_core (fst := #[]) (cap := #[]) ho (go_gs rfl hj hb h1 h2) rfl rfl hk hd rfl hf hbody hx (by simpa using hc) ?_
    rwa [gvl_yes hg] at h
  · refine x_pass ho (no_gs rfl hj hb fun h => hg (allg_snoc.2 h)) rfl hd ?_
    rwa [gvl_no hg] at h
theorem x_call_ifb {j dj : Nat} {want b : Bool} (gs : List (Bool × Bool)) {f : FuncId} {fn : Func} {xs : Array Operand} {tys : Array TypeId} (ho : lops[i]? = some ⟨some d, .call ⟨.value (.func f), xs, tys⟩, ty, pos, af, some (j, want)⟩) (hj : (lops[j]?).bind (·.dst) = some dj) (hb : l.lookup dj = some (gvl gs (.bool b))) (hk : k.getD true = true) (hd : decide (d < n) = true)
    (hf : P.funcs[f]? = some fn) (hbody : (!(fn.name == "runtime.NumGoroutine") && fn.body.isSome) = true) {c : Bool}
    (hc : allg (gs ++ [(b, want)]) → ∃ vs, evs l xs.toList = some vs ∧ ∀ w, Mem w own ro → Calls P f vs.toArray w fun e w' => e = .returned (.bool c) ∧ Later w w')
    (h : ∀ c', c' = c → WX P lops.toArray Q K rest n ((d, gvl (gs ++ [(b, want)]) (.bool c')) :: l) own ro) : WX P lops.toArray Q K ((k, i) :: rest) n l own ro :=
  x_call_if gs ho hj hb hk hd hf hbody hc (h c rfl)

/-- A call that leaves a later world: its result and that world get names. -/
theorem x_call_core {o : Oper} {f : FuncId} {fn : Func} {xs : Array Operand} {tys : Array TypeId} {c : Operand} {vs : List Value} {fst cap : Array Value} (ho : lops[i]? = some o) (hgo : Go_ lops n l o) (hop : o.op = .call ⟨.value c, xs, tys⟩) (hd0 : o.dst = some d) (hk : (k == some true) = false) (hd : decide (d < n) = true)
    (hcal : ev l c = some (.func (.func f) fst cap)) (hf : P.funcs[f]? = some fn) (hbody : (!(fn.name == "runtime.NumGoroutine") && fn.body.isSome) = true) (hx : evs l xs.toList = some vs) {R : Value → World → World → Prop}
    (hc : ∀ w, Mem w own ro → Calls P f (fst ++ vs.toArray ++ cap) w fun e w' => ∃ v, e = .returned v ∧ Later w w' ∧ R v w w')
    (h : ∀ v w1 w2, Mem w1 own ro → Later w1 w2 → R v w1 w2 → WX P lops.toArray Q K rest n ((d, v) :: l) own ((w2, notOwn own) :: ro)) : WX P lops.toArray Q K ((k, i) :: rest) n l own ro := by
  intro a w ha hw
  have hd' : d < n := of_decide_eq_true hd
  have hw1 := hgo a ha
  simp only [wpX, List.getElem?_toArray, ho]
  have key : ∀ w', Later w w' → Calls P f (fst ++ vs.toArray ++ cap) w' fun e w'' => ∃ v, e = .returned v ∧ Later w' w'' ∧ wpX P lops.toArray Q K rest (a.put o.dst v) w'' := fun w' hl =>
    Calls.mono (hc w' (hw.later hl)) fun e w2 ⟨v, he, hl2, hr⟩ => ⟨v, he, hl2, by
      rw [hd0]
      exact h v w' w2 (hw.later hl) hl2 hr _ w2 (ha.put v hd') ((hw.later hl).later hl2).snap⟩
  cases k with
  | none =>
    intro w' hl
    rw [if_pos hw1]
    unfold Oper.wp
    rw [run_callv hop ha hcal hf hbody hx]
    refine Calls.mono (key w' hl) fun e w2 he => ?_
    obtain ⟨v, rfl, hl2, hx2⟩ := he
    exact hx2
  | some b =>
    have : b = false := by cases b <;> simp_all
    subst this
    dsimp only
    rw [if_pos hw1]
    intro w' hl
    unfold Oper.wp
    rw [run_callv hop ha hcal hf hbody hx]
    refine Calls.mono (key w' hl) fun e w2 he => ?_
    obtain ⟨v, rfl, hl2, hx2⟩ := he
    exact ⟨hl2, hx2⟩
theorem x_call {f : FuncId} {fn : Func} {xs : Array Operand} {tys : Array TypeId} {vs : List Value} (ho : lops[i]? = some ⟨some d, .call ⟨.value (.func f), xs, tys⟩, ty, pos, af, none⟩) (hk : (k == some true) = false) (hd : decide (d < n) = true)
    (hf : P.funcs[f]? = some fn) (hbody : (!(fn.name == "runtime.NumGoroutine") && fn.body.isSome) = true) (hx : evs l xs.toList = some vs) {R : Value → World → World → Prop}
    (hc : ∀ w, Mem w own ro → Calls P f vs.toArray w fun e w' => ∃ v, e = .returned v ∧ Later w w' ∧ R v w w')
    (h : ∀ v w1 w2, Mem w1 own ro → Later w1 w2 → R v w1 w2 → WX P lops.toArray Q K rest n ((d, v) :: l) own ((w2, notOwn own) :: ro)) : WX P lops.toArray Q K ((k, i) :: rest) n l own ro :=
  x_call_core (fst := #[]) (cap := #[]) ho (go_none rfl) rfl rfl hk hd rfl hf hbody hx (by simpa using hc) h

/-- A call of a function value. -/
theorem x_clv {f : FuncId} {fn : Func} {xs : Array Operand} {tys : Array TypeId} {c : Operand} {vs : List Value} {cap : Array Value} (ho : lops[i]? = some ⟨some d, .call ⟨.value c, xs, tys⟩, ty, pos, af, none⟩) (hk : k.getD true = true) (hd : decide (d < n) = true)
    (hcal : ev l c = some (.func (.func f) #[] cap)) (hf : P.funcs[f]? = some fn) (hbody : (!(fn.name == "runtime.NumGoroutine") && fn.body.isSome) = true) (hx : evs l xs.toList = some vs) {v : Value}
    (hc : ∀ w, Mem w own ro → Calls P f (vs.toArray ++ cap) w fun e w' => e = .returned v ∧ Later w w')
    (h : WX P lops.toArray Q K rest n ((d, v) :: l) own ro) : WX P lops.toArray Q K ((k, i) :: rest) n l own ro :=
  x_callv_core (fst := #[]) ho (go_none rfl) rfl rfl hk hd hcal hf hbody hx (by simpa using hc) h
theorem x_clb {f : FuncId} {fn : Func} {xs : Array Operand} {tys : Array TypeId} {c : Operand} {vs : List Value} {cap : Array Value} (ho : lops[i]? = some ⟨some d, .call ⟨.value c, xs, tys⟩, ty, pos, af, none⟩) (hk : k.getD true = true) (hd : decide (d < n) = true)
    (hcal : ev l c = some (.func (.func f) #[] cap)) (hf : P.funcs[f]? = some fn) (hbody : (!(fn.name == "runtime.NumGoroutine") && fn.body.isSome) = true) (hx : evs l xs.toList = some vs) {b : Bool}
    (hc : ∀ w, Mem w own ro → Calls P f (vs.toArray ++ cap) w fun e w' => e = .returned (.bool b) ∧ Later w w')
    (h : ∀ c, c = b → WX P lops.toArray Q K rest n ((d, .bool c) :: l) own ro) : WX P lops.toArray Q K ((k, i) :: rest) n l own ro :=
  x_clv ho hk hd hcal hf hbody hx hc (h b rfl)
/-- .. guarded. -/
theorem x_cl_ifb {j dj : Nat} {want b : Bool} (gs : List (Bool × Bool)) {f : FuncId} {fn : Func} {xs : Array Operand} {tys : Array TypeId} {c : Operand} (ho : lops[i]? = some ⟨some d, .call ⟨.value c, xs, tys⟩, ty, pos, af, some (j, want)⟩) (hj : (lops[j]?).bind (·.dst) = some dj) (hb : l.lookup dj = some (gvl gs (.bool b))) (hk : k.getD true = true) (hd : decide (d < n) = true)
    (hf : P.funcs[f]? = some fn) (hbody : (!(fn.name == "runtime.NumGoroutine") && fn.body.isSome) = true) {b' : Bool}
    (hc : allg (gs ++ [(b, want)]) → ∃ vs cap, ev l c = some (.func (.func f) #[] cap) ∧ evs l xs.toList = some vs ∧ ∀ w, Mem w own ro → Calls P f (vs.toArray ++ cap) w fun e w' => e = .returned (.bool b') ∧ Later w w')
    (h : ∀ c', c' = b' → WX P lops.toArray Q K rest n ((d, gvl (gs ++ [(b, want)]) (.bool c')) :: l) own ro) : WX P lops.toArray Q K ((k, i) :: rest) n l own ro := by
  have h := h b' rfl
  by_cases hg : allg (gs ++ [(b, want)])
  · obtain ⟨h1, h2⟩ := allg_snoc.1 hg
    obtain ⟨vs, cap, hcal, hx, hc⟩ := hc hg
    refine x_callv_core (fst := #[]) ho (go_gs rfl hj hb h1 h2) rfl rfl hk hd hcal hf hbody hx (by simpa using hc) ?_
    rwa [gvl_yes hg] at h
  · refine x_pass ho (no_gs rfl hj hb fun h => hg (allg_snoc.2 h)) rfl hd ?_
    rwa [gvl_no hg] at h

/-! ## Values -/
theorem v_move {x : Operand} {v : Value} (hx : ev l x = some v) : OpV P n l own ro (.move x) ty v := by
  intro a w o ha _ ho _
  simp [execOp, ho, ha.eval hx]
theorem v_assign {x : Operand} {v : Value} (hx : ev l x = some v) : OpV P n l own ro (.assign x) ty v := by
  intro a w o ha _ ho _
  simp [execOp, ho, ha.eval hx]
theorem v_pick {c x y : Operand} {b : Bool} {v : Value} (hc : ev l c = some (.bool b)) (hv : (if b then ev l x else ev l y) = some v) : OpV P n l own ro (.pick c x y) ty v := by
  intro a w o ha _ ho _
  cases b
  · simp [execOp, ho, ha.eval hc, ha.eval (by simpa using hv : ev l y = some v), asBool]
  · simp [execOp, ho, ha.eval hc, ha.eval (by simpa using hv : ev l x = some v), asBool]
/-- 'g && v' -/
theorem v_and {c x : Operand} {g v : Bool} (hc : ev l c = some (.bool g)) (hx : ev l x = some (gvl [(g, true)] (.bool v))) : OpV P n l own ro (.pick c x (.const (.bool false))) ty (.bool (g && v)) := by
  refine v_pick hc ?_
  cases g
  · rfl
  · simpa [gvl] using hx
/-- 'g || v' -/
theorem v_or {c x : Operand} {g v : Bool} (hc : ev l c = some (.bool g)) (hx : ev l x = some (gvl [(g, false)] (.bool v))) : OpV P n l own ro (.pick c (.const (.bool true)) x) ty (.bool (g || v)) := by
  refine v_pick hc ?_
  cases g
  · simpa [gvl] using hx
  · rfl
theorem v_func {f : FuncId} {cs : List Operand} {vs : List Value} (hx : evs l cs = some vs) : OpV P n l own ro (.makeFunc (.func f) #[] cs.toArray) ty (.func (.func f) #[] vs.toArray) := by
  intro a w o ha _ ho _
  have := ha.evals hx
  simp [execOp, ho, Instr.makeFunc, ← this]
theorem v_not {x : Operand} {b : Bool} {t : TypeId} (hx : ev l x = some (.bool b)) : OpV P n l own ro (.unOp .not t x) ty (.bool (!b)) := by
  intro a w o ha _ ho _
  simp [execOp, ho, ha.eval hx, Op.unary]
theorem v_len_str {x : Operand} {t : TypeId} {s : ByteArray} (ht : P.underlying t = some .string) (hx : ev l x = some (.string s)) : OpV P n l own ro (.call ⟨.builtin .len, #[x], #[t]⟩) ty (.int .i64 s.size) := by
  intro a w o ha _ ho _
  simp [execOp, ho, resolve, invoke, builtin, ha.eval hx, Builtin.len_, run_underlying ht, goInt]
theorem v_len_slice {x : Operand} {t e : TypeId} {A : Option Addr} {m c : Nat} (ht : P.underlying t = some (.slice e)) (hx : ev l x = some (.slice A m c)) : OpV P n l own ro (.call ⟨.builtin .len, #[x], #[t]⟩) ty (.int .i64 m) := by
  intro a w o ha _ ho _
  simp [execOp, ho, resolve, invoke, builtin, ha.eval hx, Builtin.len_, run_underlying ht, goInt]
end
end Go.PK
