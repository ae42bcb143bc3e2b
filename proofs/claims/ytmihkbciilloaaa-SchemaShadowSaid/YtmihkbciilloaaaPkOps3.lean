/- Of the proofs of Ytmihkbciilloaaa; see NOTES.md. -/
import Derived.Test.YtmihkbciilloaaaPkOps2
namespace Go.PK
open Go Go.RowKit
set_option linter.unusedVariables false

theorem mk_add (b off j : Nat) : (Addr.mk b off none).add j = ⟨b, off + j, none⟩ := by
  unfold Addr.add
  split
  · subst_vars; rfl
  · rfl
def aggT (d : TypeDesc) : Bool := match d with | .struct _ | .array _ _ => true | _ => false
theorem run_isAgg {P : Program} {w : World} {t : TypeId} {d : TypeDesc} (ht : P.underlying t = some d) : (isAgg t).run P w = .ok (aggT d) w := by
  unfold isAgg aggT
  rw [Sem.run_bind, run_underlying ht w]
  cases d <;> simp
theorem run_sizeOf {P : Program} {w : World} {t : TypeId} {m : Nat} (hs : (P.info? t).map (·.size) = some m) : (sizeOf t).run P w = .ok m w := by
  obtain ⟨inf, hi, hsz⟩ := Option.map_eq_some_iff.1 hs
  simp [sizeOf, typeInfo, hi, hsz]

section
variable {P : Program} {n : Nat} {l : List (Nat × Value)} {own : List (Nat × Obj)} {ro : List Snap} {lops : List Oper} {Q : Exit → Act → World → Prop} {K : Act → World → Prop}
  {rest : List (Option Bool × Nat)} {k : Option Bool} {i d : Nat} {op : Op} {ty : TypeId} {pos : String} {af : Array Edge} {x y : Operand} {t : TypeId} {td : TypeDesc} {b off : Nat}

/-- What a place holds in every world of the state. -/
def At (own : List (Nat × Obj)) (ro : List Snap) (b off : Nat) (v : Value) : Prop := ∀ w, Mem w own ro → w.cell? ⟨b, off, none⟩ = some v
theorem at_own {cs : Array Value} {e : TypeId} {fz : Nat × Nat} {v : Value} (hb : (b, Obj.cells cs e fz) ∈ own) (hv : cs[off]? = some v) : At own ro b off v :=
  fun w hw => (hw.cell_own hb off).trans hv
theorem at_ownL {vs : List Value} {e : TypeId} {fz : Nat × Nat} {v : Value} (hb : (b, Obj.cells vs.toArray e fz) ∈ own) (hv : vs[off]? = some v) : At own ro b off v :=
  at_own hb (by simpa using hv)
theorem at_ro {s : Snap} {v : Value} (hs : s ∈ ro) (hd : s.2 b) (hc : s.1.cell? ⟨b, off, none⟩ = some v) : At own ro b off v :=
  fun w hw => (hw.cell_ro hs (p := ⟨b, off, none⟩) hd (cell_lt (p := ⟨b, off, none⟩) hc)).trans hc
theorem At.more {own' : List (Nat × Obj)} {ro' : List Snap} {v : Value} (h : At own ro b off v) (hm : ∀ w, Mem w own' ro' → Mem w own ro) : At own' ro' b off v := fun w hw => h w (hm w hw)

/-- A variable of one cell is read. -/
theorem v_load {v : Value} (ht : P.underlying t = some td) (hd : aggT td = false) (hx : ev l x = some (.pointer (some ⟨b, off, none⟩))) (hc : At own ro b off v) : OpV P n l own ro (.load t x) ty v := by
  intro A w o ha hw ho _
  simp [execOp, ho, ha.eval hx, Instr.loadAt, Instr.sureAddr, loadVar, run_isAgg ht, hd, hc w hw]
/-- A variable of several cells is read. -/
theorem v_loadN {vs : List Value} (ht : P.underlying t = some td) (hd : aggT td = true) (hs : (P.info? t).map (·.size) = some vs.length) (hx : ev l x = some (.pointer (some ⟨b, off, none⟩))) (hc : ∀ j (hj : j < vs.length), At own ro b (off + j) vs[j]) :
    OpV P n l own ro (.load t x) ty (.agg vs.toArray) := by
  intro A w o ha hw ho _
  have hl : (loadCells ⟨b, off, none⟩ vs.length).run P w = .ok vs.toArray w := run_loadCells_list (P := P) w ⟨b, off, none⟩ vs (fun j v hv => by
    rw [mk_add]
    obtain ⟨hj, rfl⟩ := List.getElem?_eq_some_iff.1 hv
    exact hc j hj w hw)
  simp [execOp, ho, ha.eval hx, Instr.loadAt, Instr.sureAddr, loadVar, run_isAgg ht, hd, run_sizeOf hs, hl]
/-- .. a whole block of the call's own. -/
theorem v_load_blk {cs : Array Value} {e : TypeId} {fz : Nat × Nat} (ht : P.underlying t = some td) (hd : aggT td = true) (hx : ev l x = some (.pointer (some ⟨b, 0, none⟩))) (hb : (b, Obj.cells cs e fz) ∈ own) (hs : (P.info? t).map (·.size) = some cs.size) :
    OpV P n l own ro (.load t x) ty (.agg cs) := by
  intro A w o ha hw ho _
  have := run_loadVar_row w b e t cs fz td (hw.own_at _ hb) ht (by cases td <;> simp_all [aggT]) hs
  simp [execOp, ho, ha.eval hx, Instr.loadAt, Instr.sureAddr, this]

/-- An operation that makes one block. -/
theorem x_new {o : Oper} (ho : lops[i]? = some o) (hgo : Go_ lops n l o) (hd0 : o.dst = some d) (hk : (k == some true) = false) (hd : decide (d < n) = true) {ob : Obj} {f : Nat → Value}
    (hr : ∀ a w, FH n l a → Mem w own ro → (execOp a.eval o).run P w = .ok (.value (f w.heap.size)) (w.alloc ob))
    (h : ∀ b, WX P lops.toArray Q K rest n ((d, f b) :: l) ((b, ob) :: own) ro) : WX P lops.toArray Q K ((k, i) :: rest) n l own ro := by
  intro a w ha hw
  have hd' : d < n := of_decide_eq_true hd
  have hw1 := hgo a ha
  simp only [wpX, List.getElem?_toArray, ho]
  have key : ∀ w', Later w w' → wpX P lops.toArray Q K rest (a.put o.dst (f w'.heap.size)) (w'.alloc ob) := fun w' hl => by
    rw [hd0]
    exact h _ _ _ (ha.put _ hd') ((hw.later hl).new ob)
  cases k with
  | none =>
    intro w' hl
    rw [if_pos hw1]
    unfold Oper.wp
    rw [hr a w' ha (hw.later hl)]
    exact key w' hl
  | some b =>
    have : b = false := by cases b <;> simp_all
    subst this
    dsimp only
    rw [if_pos hw1]
    intro w' hl
    unfold Oper.wp
    rw [hr a w' ha (hw.later hl)]
    exact ⟨Later.alloc _ _, key w' hl⟩
theorem run_zeroValue {w : World} {e : TypeId} {z : Value} (hz : (P.info? e).bind (·.zero) = some z) : (zeroValue e).run P w = .ok z w := by
  cases hi : P.info? e with
  | none => simp [hi] at hz
  | some inf =>
    have : inf.zero = some z := by simpa [hi] using hz
    simp [zeroValue, typeInfo, hi, this]
/-- A new variable. -/
theorem x_alloc {z : Value} {e : TypeId} (ho : lops[i]? = some ⟨some d, .alloc e, ty, pos, af, none⟩) (hk : (k == some true) = false) (hd : decide (d < n) = true)
    (hz : (P.info? e).bind (·.zero) = some z)
    (h : ∀ b, WX P lops.toArray Q K rest n ((d, .pointer (some ⟨b, 0, none⟩)) :: l) ((b, .cells z.cells e) :: own) ro) : WX P lops.toArray Q K ((k, i) :: rest) n l own ro :=
  x_new (f := fun b => .pointer (some ⟨b, 0, none⟩)) ho (go_none rfl) rfl hk hd (fun a w ha hw => by
    simp [execOp, Instr.alloc, run_zeroValue hz, newVar, newRow]) h
/-- A new variable with a value. -/
theorem x_box {v : Value} {e : TypeId} (ho : lops[i]? = some ⟨some d, .box e x, ty, pos, af, none⟩) (hk : (k == some true) = false) (hd : decide (d < n) = true) (hx : ev l x = some v)
    (h : ∀ b, WX P lops.toArray Q K rest n ((d, .pointer (some ⟨b, 0, none⟩)) :: l) ((b, .cells v.cells e) :: own) ro) : WX P lops.toArray Q K ((k, i) :: rest) n l own ro :=
  x_new (f := fun b => .pointer (some ⟨b, 0, none⟩)) ho (go_none rfl) rfl hk hd (fun a w ha hw => by
    simp [execOp, Instr.box, newVar, newRow, ha.eval hx]) h
def evp (l : List (Nat × Value)) : List (Nat × Operand) → Option (List (Nat × Value))
  | [] => some []
  | (j, x) :: r => match ev l x, evp l r with
    | some v, some vs => some ((j, v) :: vs)
    | _, _ => none
theorem FH.evps {a : Act} (h : FH n l a) : ∀ {r : List (Nat × Operand)} {vs : List (Nat × Value)}, evp l r = some vs → r.map (fun p => (p.1, a.eval p.2)) = vs
  | [], vs, hx => by simp [evp] at hx; simp [hx]
  | (j, x) :: r, vs, hx => by
    simp only [evp] at hx
    split at hx
    · rename_i v us hv hus
      cases hx
      simp [h.eval hv, h.evps hus]
    · cases hx
/-- A struct that is written out. -/
theorem v_build {parts : List (Nat × Operand)} {vs : List (Nat × Value)} {fs : Array Field} {z : Value} {cs : Array Value} {places : Array (Nat × Nat)} (ht : P.underlying t = some (.struct fs)) (hz : (P.info? t).bind (·.zero) = some z)
    (hp : fs.toList.map (fun f => ((P.info? f.type).map fun j => (f.offset, j.size))) = places.toList.map some) (hx : evp l parts = some vs) (hf : Instr.fill (places[·]?) z.cells vs = some cs) :
    OpV P n l own ro (.build t parts.toArray) ty (.agg cs) := by
  intro A w o ha hw ho _
  have hm : ∀ (fs : List Field) (ps : List (Nat × Nat)), fs.map (fun f => ((P.info? f.type).map fun j => (f.offset, j.size))) = ps.map some →
      (fs.mapM fun f => do pure (f.offset, ← sizeOf f.type) : Sem (List (Nat × Nat))).run P w = .ok ps w := by
    intro fs
    induction fs with
    | nil => intro ps hps; cases ps with
      | nil => simp
      | cons _ _ => simp at hps
    | cons f fs ih => intro ps hps; cases ps with
      | nil => simp at hps
      | cons p ps =>
        simp only [List.map_cons, List.cons.injEq] at hps
        obtain ⟨h1, h2⟩ := hps
        cases hi : P.info? f.type with
        | none => simp [hi] at h1
        | some inf =>
          simp [hi] at h1
          have ih2 := ih ps h2
          simp only [List.mapM_cons, Sem.run_bind, run_sizeOf (P := P) (w := w) (t := f.type) (m := inf.size) (by simp [hi]), Result.andThen_ok, Sem.run_pure, h1]
          rw [ih2]
          simp
  have hm2 : (fs.mapM fun f => do pure (f.offset, ← sizeOf f.type) : Sem (Array (Nat × Nat))).run P w = .ok places w := by
    rw [Array.mapM_eq_mapM_toList]
    have := hm fs.toList places.toList hp
    simp only [Sem.run_bind, map_eq_pure_bind, this, Result.andThen_ok, Sem.run_pure]
  have hparts : (parts.toArray.map fun (i, x) => (i, A.eval x)).toList = vs := by
    rw [Array.toList_map]; exact ha.evps hx
  simp only [execOp, ho, Instr.build, Sem.run_bind, run_zeroValue hz, Result.andThen_ok, run_underlying ht, hm2, hparts, hf, Sem.run_pure]
/-- A field of one cell of a struct value. -/
theorem v_field {fs : Array Field} {f : Field} {j : Nat} {cs : Array Value} {v : Value} {fd : TypeDesc} (ht : P.underlying t = some (.struct fs)) (hf : fs[j]? = some f) (hfd : P.underlying f.type = some fd) (hd : aggT fd = false) (hx : ev l x = some (.agg cs)) (hv : cs[f.offset]? = some v) :
    OpV P n l own ro (.field t x j) ty v := by
  intro A w o ha hw ho _
  simp [execOp, ho, ha.eval hx, Instr.field, run_underlying ht, hf, asAgg, part, run_isAgg hfd, hd, hv]
/-- A slice that is written out. -/
theorem x_buildSlice {parts : List (Nat × Operand)} {vs : List (Nat × Value)} {e : TypeId} {z : Value} {cs : Array Value} {len m : Nat} (ho : lops[i]? = some ⟨some d, .buildSlice t len parts.toArray, ty, pos, af, none⟩) (hk : (k == some true) = false) (hd : decide (d < n) = true)
    (ht : P.underlying t = some (.slice e)) (hs : (P.info? e).map (·.size) = some m) (hz : (P.info? e).bind (·.zero) = some z) (hlen : (decide (len * m ≤ 2 ^ 24) && decide (0 < len * m)) = true) (hx : evp l parts = some vs)
    (hf : Instr.fill (fun j => some (j * m, m)) ((Array.range (len * m)).map (z.cells[· % z.cells.size]!)) vs = some cs)
    (h : ∀ b, WX P lops.toArray Q K rest n ((d, .slice (some ⟨b, 0, none⟩) len len) :: l) ((b, .cells cs e) :: own) ro) : WX P lops.toArray Q K ((k, i) :: rest) n l own ro :=
  x_new (f := fun b => .slice (some ⟨b, 0, none⟩) len len) ho (go_none rfl) rfl hk hd (fun A w ha hw => by
    have hparts : (parts.toArray.map fun (i, x) => (i, A.eval x)).toList = vs := by
      rw [Array.toList_map]; exact ha.evps hx
    simp only [Bool.and_eq_true, decide_eq_true_eq] at hlen
    have h1 : ¬ len * m > 2 ^ 24 := by omega
    have h2 : ¬ len * m = 0 := by omega
    simp only [execOp, Instr.buildSlice, Sem.run_bind, run_underlying ht, Result.andThen_ok, run_sizeOf hs, h1, h2, if_false, run_zeroValue hz, Sem.run_pure, hparts, hf, newRow]
    simp) h
theorem turned_setRow {w : World} {g : Nat} {cs cs' : Array Value} {e : TypeId} (h : w.heap[g]? = some (.cells cs e (0, 0))) : Turned w (w.setRow g cs') g (.cells cs' e (0, 0)) where
  os := rfl
  tape := rfl
  output := rfl
  size := by simp [World.setRow]
  at_ := setRow_heap w g cs cs' e (0, 0) h
  other := fun k hk => by
    simp only [World.setRow, Array.getElem?_modify]
    rw [if_neg (fun e => hk e.symm)]
/-- A store into a block of the call's own. -/
theorem x_store_core {o : Oper} {v : Value} {l1 l2 : List (Nat × Obj)} {cs : List Value} {e : TypeId} {m : Nat} (ho : lops[i]? = some o) (hgo : Go_ lops n l o) (hop : o.op = .store t x y) (hd0 : o.dst = none) (hx : ev l x = some (.pointer (some ⟨b, off, none⟩))) (hy : ev l y = some v)
    (hs : (P.info? t).map (·.size) = some m) (hm : (decide (v.cells.size = m) && v.cells.toList.all (fun u => u.oneCell')) = true) (hb : off + m ≤ cs.length) (hown : own = l1 ++ (b, .cells cs.toArray e (0, 0)) :: l2)
    (h : WX P lops.toArray Q K rest n l (l1 ++ (b, .cells (cs.take off ++ v.cells.toList ++ cs.drop (off + m)).toArray e (0, 0)) :: l2) ro) : WX P lops.toArray Q K ((none, i) :: rest) n l own ro := by
  subst hown
  intro a w ha hw
  simp only [Bool.and_eq_true, decide_eq_true_eq, List.all_eq_true] at hm
  obtain ⟨hm, h1⟩ := hm
  have hw1 := hgo a ha
  simp only [wpX, List.getElem?_toArray, ho]
  intro w' hl
  rw [if_pos hw1]
  have hM := hw.later hl
  have hg : w'.heap[b]? = some (.cells cs.toArray e (0, 0)) := hM.own_at (b, _) (by simp)
  have hlen : v.cells.toList.length = m := by simpa using hm
  have hst := run_storeCells_at (P := P) b off e v.cells.toList 0 cs.toArray w' hg (by simp only [List.size_toArray]; omega) h1
  have hst2 : (storeVar t ⟨b, off, none⟩ v).run P w' = .ok () (w'.setRow b (cs.take off ++ v.cells.toList ++ cs.drop (off + m)).toArray) := by
    simp only [storeVar, Sem.run_bind, run_sizeOf hs, Result.andThen_ok, hm, ne_eq, not_true, if_false, hst, Nat.add_zero, hlen]
  unfold Oper.wp
  have hrun : (execOp a.eval o).run P w' = .ok .skip (w'.setRow b (cs.take off ++ v.cells.toList ++ cs.drop (off + m)).toArray) := by
    simp only [execOp, hop, ha.eval hx, ha.eval hy, Instr.storeAt, Instr.sureAddr, Sem.run_bind, Sem.run_pure, Result.andThen_ok, hst2]
  rw [hrun]
  show wpX P lops.toArray Q K rest (a.put o.dst undef) _
  rw [hd0]
  exact h a _ ha (hM.turn (turned_setRow hg))
theorem x_store {v : Value} (l1 : List (Nat × Obj)) {l2 : List (Nat × Obj)} {cs : List Value} {e : TypeId} {m : Nat} (ho : lops[i]? = some ⟨none, .store t x y, ty, pos, af, none⟩) (hx : ev l x = some (.pointer (some ⟨b, off, none⟩))) (hy : ev l y = some v)
    (hown : own = l1 ++ (b, .cells cs.toArray e (0, 0)) :: l2) (hs : (P.info? t).map (·.size) = some m) (hm : (decide (v.cells.size = m) && v.cells.toList.all (fun u => u.oneCell')) = true) (hb : off + m ≤ cs.length)
    (h : WX P lops.toArray Q K rest n l (l1 ++ (b, .cells (cs.take off ++ v.cells.toList ++ cs.drop (off + m)).toArray e (0, 0)) :: l2) ro) : WX P lops.toArray Q K ((none, i) :: rest) n l own ro :=
  x_store_core ho (go_none rfl) rfl rfl hx hy hs hm hb hown h
/-- 'a[i]' of an array behind a pointer: the place. -/
theorem v_indexArr {e : TypeId} {N j m b off off' : Nat} {kk : IntKind} (ht : P.underlying t = some (.array N e)) (hs : (P.info? e).map (·.size) = some m) (hx : ev l x = some (.pointer (some ⟨b, off, none⟩))) (hy : ev l y = some (.int kk (j : Nat))) (hj : j < N) (ho' : off + j * m = off') :
    OpV P n l own ro (.indexAddr t x y) ty (.pointer (some ⟨b, off', none⟩)) := by
  intro A w o ha _ ho _
  obtain ⟨inf, hi, hsz⟩ := Option.map_eq_some_iff.1 hs
  have : (Addr.mk b off none).add (j * m) = ⟨b, off', none⟩ := by rw [mk_add, ho']
  simp [execOp, ho, ha.eval hx, ha.eval hy, Instr.indexAt, run_underlying ht, asIntOf, Instr.sureAddr, sizeOf, typeInfo, hi, hsz, hj, this]
/-- A store of a whole variable. -/
theorem x_store0 {v : Value} (l1 : List (Nat × Obj)) {l2 : List (Nat × Obj)} {cs : Array Value} {e : TypeId} {m : Nat} (ho : lops[i]? = some ⟨none, .store t x y, ty, pos, af, none⟩) (hx : ev l x = some (.pointer (some ⟨b, 0, none⟩))) (hy : ev l y = some v)
    (hown : own = l1 ++ (b, .cells cs e (0, 0)) :: l2) (hs : (P.info? t).map (·.size) = some m) (hm : (decide (v.cells.size = m) && v.cells.toList.all (fun u => u.oneCell')) = true) (hb : cs.size = m)
    (h : WX P lops.toArray Q K rest n l (l1 ++ (b, .cells v.cells e (0, 0)) :: l2) ro) : WX P lops.toArray Q K ((none, i) :: rest) n l own ro := by
  have hsz : v.cells.size = m := by simp only [Bool.and_eq_true, decide_eq_true_eq] at hm; exact hm.1
  refine x_store_core (cs := cs.toList) ho (go_none rfl) rfl rfl hx hy hs hm (by simp [hb]) (by simpa using hown) ?_
  have e1 : (cs.toList.take 0 ++ v.cells.toList ++ cs.toList.drop (0 + m)).toArray = v.cells := by
    rw [List.take_zero, List.drop_eq_nil_of_le (by simp [hb])]
    simp
  rw [e1]
  exact h
/-- 'xs[:j]' of a slice. -/
theorem v_scut_to {e : TypeId} {A : Option Addr} {len cap j m : Nat} {kk : IntKind} (ht : P.underlying t = some (.slice e)) (hs : (P.info? e).map (·.size) = some m) (hx : ev l x = some (.slice A len cap)) (hy : ev l y = some (.int kk (j : Nat))) (hj : j ≤ cap) :
    OpV P n l own ro (.slice t x none (some y) none) ty (.slice A j cap) := by
  intro a w o ha hw ho _
  have h2 : (Instr.sliceAt t (.slice A len cap) none (some (.int kk (j : Nat))) none).run P w = .ok (.slice A j cap) w := by
    have hA : (if cap = 0 then A else A.map (fun a => a.add (0 * m))) = A := by
      split
      · rfl
      · cases A with
        | none => rfl
        | some a => simp [Addr.add]
    simp [Instr.sliceAt, Instr.slice, Instr.sliceBounds, Instr.sliceBound, asIntOf, run_underlying ht, hj, run_sizeOf hs]
    simpa using hA
  simp [execOp, ho, ha.eval hx, ha.eval hy, h2]
end
end Go.PK
