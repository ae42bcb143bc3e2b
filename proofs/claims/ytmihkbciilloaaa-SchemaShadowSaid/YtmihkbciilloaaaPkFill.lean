/- Of the proofs of Ytmihkbciilloaaa; see NOTES.md. -/
import Derived.Test.YtmihkbciilloaaaPkCtl
import Derived.Scope
namespace Go.PK
open Go Go.RowKit
set_option linter.unusedVariables false
set_option linter.unusedSimpArgs false

def cellsL : Value → List Value
  | .agg cs => cs.toList
  | v => [v]
theorem cellsL_eq (v : Value) : v.cells.toList = cellsL v := by cases v <;> rfl
theorem cellsL_len (v : Value) : v.cells.size = (cellsL v).length := by rw [← cellsL_eq]; simp
def putL : List Value → Nat → List Value → List Value
  | [], _, _ => []
  | c :: cs, 0, [] => c :: cs
  | _ :: cs, 0, v :: vs => v :: putL cs 0 vs
  | c :: cs, n + 1, vs => c :: putL cs n vs
theorem putL_nil : ∀ (cs : List Value) (n : Nat), putL cs n [] = cs
  | [], n => by cases n <;> rfl
  | c :: cs, 0 => rfl
  | c :: cs, n + 1 => by show c :: putL cs n [] = c :: cs; rw [putL_nil cs n]
theorem putL_cons (v : Value) (vs : List Value) : ∀ (cs : List Value) (n : Nat), putL cs n (v :: vs) = putL (cs.set n v) (n + 1) vs
  | [], n => by cases n <;> rfl
  | c :: cs, 0 => rfl
  | c :: cs, n + 1 => by show c :: putL cs n (v :: vs) = c :: putL (cs.set n v) (n + 1) vs; rw [putL_cons v vs cs n]
theorem putL_len : ∀ (vs cs : List Value) (n : Nat), (putL cs n vs).length = cs.length
  | [], cs, n => by rw [putL_nil]
  | v :: vs, cs, n => by rw [putL_cons, putL_len]; simp
theorem fold_putL (off : Nat) : ∀ (vs : List Value) (s : Nat) (cells : Array Value), (vs.zipIdx s).foldl (fun cs x => cs.setIfInBounds (off + x.2) x.1) cells = (putL cells.toList (off + s) vs).toArray
  | [], s, cells => by simp [putL_nil]
  | v :: vs, s, cells => by
    rw [List.zipIdx_cons, List.foldl_cons, fold_putL off vs (s + 1), putL_cons]
    simp [Nat.add_assoc]
def fillL (pl : Nat → Option (Nat × Nat)) : List Value → List (Nat × Value) → Option (List Value)
  | cells, [] => some cells
  | cells, (i, v) :: r => match pl i with
    | none => none
    | some (off, size) => match Nat.beq (cellsL v).length size && Nat.ble (off + (cellsL v).length) cells.length with
      | true => fillL pl (putL cells off (cellsL v)) r
      | false => none
theorem fill_of_L {pl : Nat → Option (Nat × Nat)} : ∀ (vs : List (Nat × Value)) (cells cs : List Value), fillL pl cells vs = some cs → Instr.fill pl cells.toArray vs = some cs.toArray
  | [], cells, cs, h => by cases h; rfl
  | (i, v) :: r, cells, cs, h => by
    simp only [fillL] at h
    unfold Instr.fill
    split at h
    · cases h
    · rename_i off size hp
      rw [hp]
      split at h
      · rename_i hb
        obtain ⟨h1, h2⟩ := Bool.and_eq_true_iff.1 hb
        have h1 := Nat.eq_of_beq_eq_true h1
        have h2 := Nat.le_of_ble_eq_true h2
        have hn : ¬ ((decide (v.cells.size ≠ size) || decide (off + v.cells.size > cells.toArray.size)) = true) := by
          rw [cellsL_len]; simp only [List.size_toArray, Bool.or_eq_true, decide_eq_true_eq]; omega
        dsimp only
        rw [if_neg hn]
        have : v.cells.zipIdx.foldl (fun cs (x : Value × Nat) => cs.setIfInBounds (off + x.2) x.1) cells.toArray = (putL cells off (cellsL v)).toArray := by
          rw [← Array.foldl_toList, Array.toList_zipIdx, fold_putL, cellsL_eq]; simp
        have h3 := fill_of_L r _ cs h
        rw [← this] at h3
        exact h3
      · cases h

section
variable {P : Program} {n : Nat} {l : List (Nat × Value)} {own : List (Nat × Obj)} {ro : List Snap} {lops : List Oper} {Q : Exit → Act → World → Prop} {K : Act → World → Prop}
  {rest : List (Option Bool × Nat)} {k : Option Bool} {i d : Nat} {op : Op} {ty : TypeId} {pos : String} {af : Array Edge} {x y : Operand} {t : TypeId}
/-- An array that is written out. -/
theorem v_buildArr {parts : List (Nat × Operand)} {vs : List (Nat × Value)} {z : Value} {cs : List Value} {N m : Nat} {e : TypeId} (ht : P.underlying t = some (.array N e)) (hz : (P.info? t).bind (·.zero) = some z)
    (hs : (P.info? e).map (·.size) = some m) (hx : evp l parts = some vs) (hf : fillL (fun j => some (j * m, m)) (cellsL z) vs = some cs) :
    OpV P n l own ro (.build t parts.toArray) ty (.agg cs.toArray) := by
  intro A w o ha hw ho _
  have hparts : (parts.toArray.map fun (i, x) => (i, A.eval x)).toList = vs := by
    rw [Array.toList_map]; exact ha.evps hx
  have hfill := fill_of_L vs (cellsL z) cs hf
  rw [← cellsL_eq] at hfill
  simp only [Array.toArray_toList] at hfill
  simp only [execOp, ho, Instr.build, Sem.run_bind, run_zeroValue hz, Result.andThen_ok, run_underlying ht, run_sizeOf hs, hparts, hfill, Sem.run_pure]
/-- The state is said in other words. -/
theorem x_mem {plan : List (Option Bool × Nat)} {own' : List (Nat × Obj)} {ro' : List Snap} (hm : ∀ w, Mem w own ro → Mem w own' ro') (h : WX P lops.toArray Q K plan n l own' ro') : WX P lops.toArray Q K plan n l own ro :=
  fun a w ha hw => h a w ha (hm w hw)
theorem x_slots {plan : List (Option Bool × Nat)} {l' : List (Nat × Value)} (hs : Sub l' l) (h : WX P lops.toArray Q K plan n l' own ro) : WX P lops.toArray Q K plan n l own ro :=
  fun a w ha hw => h a w (ha.sub hs) hw
theorem x_memW {c : Code} {own' : List (Nat × Obj)} {ro' : List Snap} {Q : Exit → Act → World → Prop} (hm : ∀ w, Mem w own ro → Mem w own' ro') (h : W P c Q n l own' ro') : W P c Q n l own ro :=
  fun a w ha hw => h a w ha (hm w hw)
/-- A struct that is written out. -/
theorem v_buildL {parts : List (Nat × Operand)} {vs : List (Nat × Value)} {fs : Array Field} {z : Value} {cs : List Value} {places : List (Nat × Nat)} (ht : P.underlying t = some (.struct fs)) (hz : (P.info? t).bind (·.zero) = some z)
    (hp : fs.toList.map (fun f => ((P.info? f.type).map fun j => (f.offset, j.size))) = places.map some) (hx : evp l parts = some vs) (hf : fillL (places[·]?) (cellsL z) vs = some cs) :
    OpV P n l own ro (.build t parts.toArray) ty (.agg cs.toArray) := by
  refine v_build (places := places.toArray) ht hz (by simpa using hp) hx ?_
  have := fill_of_L vs (cellsL z) cs hf
  rw [← cellsL_eq] at this
  simpa using this
theorem x_buildSliceL {parts : List (Nat × Operand)} {vs : List (Nat × Value)} {e : TypeId} {z : Value} {cs : List Value} {len m : Nat} (ho : lops[i]? = some ⟨some d, .buildSlice t len parts.toArray, ty, pos, af, none⟩) (hk : (k == some true) = false) (hd : decide (d < n) = true)
    (ht : P.underlying t = some (.slice e)) (hs : (P.info? e).map (·.size) = some m) (hz : (P.info? e).bind (·.zero) = some z) (hlen : (decide (len * m ≤ 2 ^ 24) && decide (0 < len * m)) = true) (hx : evp l parts = some vs)
    (hf : fillL (fun j => some (j * m, m)) ((List.range (len * m)).map (fun i => (cellsL z)[i % (cellsL z).length]!)) vs = some cs)
    (h : ∀ b, WX P lops.toArray Q K rest n ((d, .slice (some ⟨b, 0, none⟩) len len) :: l) ((b, .cells cs.toArray e) :: own) ro) : WX P lops.toArray Q K ((k, i) :: rest) n l own ro := by
  refine x_buildSlice ho hk hd ht hs hz hlen hx (cs := cs.toArray) ?_ h
  have h1 := fill_of_L vs _ cs hf
  have h2 : ((List.range (len * m)).map (fun i => (cellsL z)[i % (cellsL z).length]!)).toArray = (Array.range (len * m)).map (z.cells[· % z.cells.size]!) := by
    apply Array.toList_inj.1
    simp only [Array.toList_map, Array.toList_range]
    refine List.map_congr_left fun j _ => ?_
    rw [cellsL_len, ← cellsL_eq]
    simp [Array.getElem!_eq_getD, Array.getD_eq_getD_getElem?]
  rwa [h2] at h1
theorem w_label {j : Nat} {Q : Exit → Act → World → Prop} (h : S (Q .normal) n l own ro) : W P (.label j) Q n l own ro := fun a w ha hw => wp_label (h a w ha hw)
theorem w_scope {c : Code} {Q : Exit → Act → World → Prop} (h : W P c (Exit.noGoto Q) n l own ro) : W P (.scope c) Q n l own ro := fun a w ha hw => wp_scope_straight (h a w ha hw)
theorem sc_ret {Q : Exit → Act → World → Prop} (h : S (Q .ret) n l own ro) : S (Exit.noGoto Q .ret) n l own ro := h
theorem sc_norm {Q : Exit → Act → World → Prop} (h : S (Q .normal) n l own ro) : S (Exit.noGoto Q .normal) n l own ro := h
theorem sc_exit {id : Nat} {Q : Exit → Act → World → Prop} (h : S (Q (.exit id)) n l own ro) : S (Exit.noGoto Q (.exit id)) n l own ro := h
end
end Go.PK
